/- Part 11 of the proof of its last text: this session's own texts, shortened and joined by a program of its own (wip/pack.py). -/
import Derived.Test.YtaeckoinpllpnaaGreatTaj
import Derived.Test.YtaeckoinpllpnaaGreatTaa
set_option linter.unusedVariables false
set_option linter.unusedSimpArgs false
set_option maxHeartbeats 16000000
set_option maxRecDepth 100000
namespace Go.Proofs.YtaeckoinpllpnaaGreat
open Go.RowKit Go.Proofs.YtaeckoinpllpnaaGreatW.PrintWords
theorem Zmd (x:Pln) (n:Nat) (hx:Sane x n) (ps:List Value) (w:World) (gp:Nat) (hP:allK w x kPln ps) (hpk:Zio w gp ps) (na:Addr) (A1 A2 A3 A4 A5 A6 A7:Option Addr) (c1 c2 c3 c4 c5 c6 c7:Nat) (hR:NoR w x n A1 A2 A3 A4 A5 A6 A7) (hN:Zqo w na [.bool true,.int .i64 1,.int .i64 0,.slice A1 x.cells.length c1,.slice A2 x.ways.length c2,.slice A3 x.ways.length c3,.slice A4 x.ways.length c4,.slice A5 x.ways.length c5,.slice A6 n c6,.slice A7 n c7]) (at_:Nat) (hat:at_<n) :
  Calls Tryz.prog 187 #[.pointer (some ⟨gp,0,none⟩),.pointer (some na),.int .i64 at_] w fun e w'=>e=.returned (.bool true)∧Below w.heap.size w w':=by
 obtain ⟨B1,d1,B2,d2,B3,d3,B4,d4,rfl,l1,r1,l2,r2,l3,r3,l4,r4⟩:=Zcs hP
 obtain ⟨hn,n1,n4,hcel,hway,hdep,hend,hnod⟩:=hx
 have q1:=fun (w1:World) (h:Below w.heap.size w w1)=>Zse _ A7 c6 c7 n n1 n4 w1 (Zac hR.r6 h) (Zac hR.r7 h)
 have hg:(List.replicate n (0:Int))[at_]? = some 0:=by rw [List.getElem?_replicate,if_pos hat]
 obtain ⟨ad,e6,g0⟩:=Zeq hR.r6 hg
 subst e6
 have k0:w.cell? na=some (.bool true):=hN.1 _ rfl;have k1:w.cell? ⟨na.block,na.off+1,none⟩=some (.int .i64 1):=hN.2 1 _ (by decide) rfl;have k2:w.cell? ⟨na.block,na.off+2,none⟩=some (.int .i64 0):=hN.2 2 _ (by decide) rfl;have k8:w.cell? ⟨na.block,na.off+8,none⟩=some (.slice (some ad) n c6):=hN.2 8 _ (by decide) rfl;have k9:w.cell? ⟨na.block,na.off+9,none⟩=some (.slice A7 n c7):=hN.2 9 _ (by decide) rfl
 have p0:w.cell? ⟨gp,0,none⟩=some (.int .i64 n):=hpk 0 _ (by rw [hn];rfl)
 go_enter Tryz.func187,Tryz.ntmps187
 go_wp2_with (fail)
 refine Zan (by kernel_rfl) (by kernel_rfl) ?_
 have hx:=Zbg w
 repeat (go_big_quiet_step (first | (go_at_call 219;with_reducible exact Calls.ext_of_below (q1 _ (Zam _ _)))))
 refine wpQuiet_nil ?_
 rintro _ ⟨wt,rfl⟩
 have hbx:=Zam w wt
 clear hx
 clear k0 k1 k2 k8 k9 p0 g0
 have hNt:=hN.below hbx
 have k0:(ext w wt).cell? na=some (.bool true):=hNt.1 _ rfl;have k8:(ext w wt).cell? ⟨na.block,na.off+8,none⟩=some (.slice (some ad) n c6):=hNt.2 8 _ (by decide) rfl
 go_wp2
 clear k0 k8
 go_loopw [98] (fun i wr=>∃ k:Nat,k≤n∧i=.int .i64 k∧Below (ext w wt).heap.size (ext w wt) wr) (fun i _=>n-(intOf i).toNat)
 case atStart=>exact ⟨0,Nat.zero_le _,rfl,brf_⟩
 case round =>
  obtain ⟨k,hk,rfl,hb⟩:=hrel
  have hb1:=hbx.trans (hb.mono hbx.size)
  by_cases hlt:k<n
  ·have hg:(List.replicate n (0:Int))[k]? = some 0:=by rw [List.getElem?_replicate,if_pos hlt]
   obtain ⟨bd,e7,g0⟩:=Zeq (Zac hR.r6 hb1) hg
   obtain rfl:=Option.some.inj e7
   have k0:wr.cell? na=some (.bool true):=(hN.below hb1).1 _ rfl
   go_wp2
   refine ⟨⟨k+1,by omega,rfl,hb⟩, ?_⟩
   simp [intOf]
   omega
  ·have e:k=n:=by omega
   subst e
   go_wp2
   go_ret
   exact ⟨rfl,hb1⟩
theorem Zgy (W:World) (o:Obj) {A:Addr} {v:Value} (h:W.cell? A=some v):(W.alloc o).cell? A=some v:=Zaa ((Below.refl W.heap.size W).alloc nlr_ o) h
theorem Zjy (x:Pln) (n:Nat) (hx:Sane x n) (ps:List Value) (w:World) (gp:Nat) (hP:allK w x kPln ps) (hpk:Zio w gp ps) (na:Addr) (A1 A2 A3 A4 A5 A6 A7:Option Addr) (c1 c2 c3 c4 c5 c6 c7:Nat) (hR:NoR w x n A1 A2 A3 A4 A5 A6 A7) (hN:Zqo w na [.bool true,.int .i64 1,.int .i64 0,.slice A1 x.cells.length c1,.slice A2 x.ways.length c2,.slice A3 x.ways.length c3,.slice A4 x.ways.length c4,.slice A5 x.ways.length c5,.slice A6 n c6,.slice A7 n c7]) (at_ way:Nat) (hat:at_<n) (hw:way<x.ways.length) :
  Calls Tryz.prog 190 #[.pointer (some ⟨gp,0,none⟩),.pointer (some na),.int .i64 at_,.int .i64 way] w fun e w'=>e=.returned (.bool true)∧Below w.heap.size w w':=by
 have hPP:=hP
 obtain ⟨B1,d1,B2,d2,B3,d3,B4,d4,rfl,l1,r1,l2,r2,l3,r3,l4,r4⟩:=Zcs hP
 obtain ⟨hn,n1,n4,hcel,hway,hdep,hend,hnod⟩:=hx
 obtain ⟨y,hy⟩:=Zar x.ways hw
 obtain ⟨j0,j1,j2,j3⟩:=hend _ _ hy
 obtain ⟨zd,hzd⟩:=Zar x.cells (show y.dst.toNat<x.cells.length by omega)
 obtain ⟨z0,z1⟩:=hnod _ _ hzd
 obtain ⟨en,hen⟩:∃ en:Nat,ends x way=(en:Int):=⟨zd.node.toNat,by rw [Zqk (show x.ways[(way:Int).toNat]? = some y from hy),Zdl hzd];omega⟩
 have hel:en<n:=by
  have:ends x way=zd.node:=by rw [Zqk (show x.ways[(way:Int).toNat]? = some y from hy),Zdl hzd]
  omega
 have qF:=fun (w1:World) (h:Below w.heap.size w w1)=>Zkk x _ w1 gp (Zai h hPP) (hpk.below h) way at_ (by omega) (by omega) hend
 have qE:=fun (w1:World) (h:Below w.heap.size w w1)=>Zft x _ w1 gp (Zai h hPP) (hpk.below h) way (by omega) (by omega) hend
 rw [hen] at qE
 have qB:=fun (w1:World) (h:Below w.heap.size w w1)=>Zei x _ w1 gp (Zai h hPP) (hpk.below h) way (by omega) (by omega) hend
 have qO:=fun w=>Zgn 1 w
 rw [show inB 1 1 60000=true from rfl] at qO
 simp only [cond_true] at qO
 have qK:=fun w=>Zsg 1 0 0 0 w
 rw [show Zwk 1 0 0 0=true from rfl] at qK
 have qI:=fun w=>Ztv 0 0 0 w
 rw [show inOk 0 0 0=true from rfl] at qI
 have hg:(List.replicate n (0:Int))[en]? = some 0:=by rw [List.getElem?_replicate,if_pos hel]
 obtain ⟨ad6,e6,g0⟩:=Zeq hR.r6 hg
 subst e6
 obtain ⟨ad4,e4,o0,o1,o2,o3⟩:=Zxj hR.r4 (Zgp (fun _=>Zdr) hy)
 obtain ⟨ad5,e5,i0,i1,i2⟩:=Zzb hR.r5 (Zgp (fun _=>Zez) hy)
 subst e4
 subst e5
 have k0:w.cell? na=some (.bool true):=hN.1 _ rfl;have k1:w.cell? ⟨na.block,na.off+1,none⟩=some (.int .i64 1):=hN.2 1 _ (by decide) rfl;have k6:w.cell? ⟨na.block,na.off+6,none⟩=some (.slice (some ad4) x.ways.length c4):=hN.2 6 _ (by decide) rfl;have k7:w.cell? ⟨na.block,na.off+7,none⟩=some (.slice (some ad5) x.ways.length c5):=hN.2 7 _ (by decide) rfl
 have a0:=fun (W:World) (o:Obj) (h:W.cell? ⟨na.block,na.off+6,none⟩=some (.slice (some ad4) x.ways.length c4))=>Zgy W o h
 have a1:=fun (W:World) (o:Obj) (h:W.cell? ⟨na.block,na.off+7,none⟩=some (.slice (some ad5) x.ways.length c5))=>Zgy W o h
 have a2:=fun (W:World) (o:Obj) (h:W.cell? (ad4.add (way*4))=some (.int .i64 Zdr.boot))=>Zgy W o h
 have a3:=fun (W:World) (o:Obj) (h:W.cell? ⟨(ad4.add (way*4)).block,(ad4.add (way*4)).off+1,none⟩=some (.int .i64 Zdr.peer))=>Zgy W o h
 have a4:=fun (W:World) (o:Obj) (h:W.cell? ⟨(ad4.add (way*4)).block,(ad4.add (way*4)).off+2,none⟩=some (.int .i64 Zdr.epoch))=>Zgy W o h
 have a5:=fun (W:World) (o:Obj) (h:W.cell? ⟨(ad4.add (way*4)).block,(ad4.add (way*4)).off+3,none⟩=some (.int .i64 Zdr.seq))=>Zgy W o h
 have a6:=fun (W:World) (o:Obj) (h:W.cell? (ad5.add (way*3))=some (.int .i64 Zez.boot))=>Zgy W o h
 have a7:=fun (W:World) (o:Obj) (h:W.cell? ⟨(ad5.add (way*3)).block,(ad5.add (way*3)).off+1,none⟩=some (.int .i64 Zez.epoch))=>Zgy W o h
 have a8:=fun (W:World) (o:Obj) (h:W.cell? ⟨(ad5.add (way*3)).block,(ad5.add (way*3)).off+2,none⟩=some (.int .i64 Zez.seq))=>Zgy W o h
 go_enter Tryz.func190,Tryz.ntmps190
 go_upto_region 1 with (fail)
 go_region
 ·skip
  have hb0:Below w.heap.size w (((w.alloc (.cells #[.int .i64 1,.int .i64 0,.int .i64 0,.int .i64 0] 167)).alloc (.cells #[.int .i64 0,.int .i64 0,.int .i64 0] 170)).drew):=Zat (((Below.refl w.heap.size w).alloc nlr_ _).alloc (by simp) _)
  have N9:(((w.alloc (.cells #[.int .i64 1,.int .i64 0,.int .i64 0,.int .i64 0] 167)).alloc (.cells #[.int .i64 0,.int .i64 0,.int .i64 0] 170)).drew).heap[w.heap.size]? = some (.cells #[.int .i64 1,.int .i64 0,.int .i64 0,.int .i64 0] 167 (0,0)):=Zdb (Zal (Zas w _) _)
  have N10:(((w.alloc (.cells #[.int .i64 1,.int .i64 0,.int .i64 0,.int .i64 0] 167)).alloc (.cells #[.int .i64 0,.int .i64 0,.int .i64 0] 170)).drew).heap[w.heap.size+1]? = some (.cells #[.int .i64 0,.int .i64 0,.int .i64 0] 170 (0,0)):=Zdb (Zbs (w.alloc (.cells #[.int .i64 1,.int .i64 0,.int .i64 0,.int .i64 0] 167)) _ (by simp))
  generalize hW:(((w.alloc (.cells #[.int .i64 1,.int .i64 0,.int .i64 0,.int .i64 0] 167)).alloc (.cells #[.int .i64 0,.int .i64 0,.int .i64 0] 170)).drew)=W at *
  simp only [Zdr,Zez]
  rw [hW]
  clear hW k0 k1 k6 k7 o0 o1 o2 o3 i0 i1 i2 a0 a1 a2 a3 a4 a5 a6 a7 a8
  have k0:W.cell? na=some (.bool true):=(hN.below hb0).1 _ rfl
  cases hF:Zul x way at_
  ·rw [hF] at qF
   go_wp2_with (go_at_call 117;with_reducible refine (qF _ hb0).mono ?_;rintro e w1 ⟨rfl,hb1⟩;have hbU:=hb0.trans (hb1.mono hb0.size);have N9u:=Zab N9 hb1;have N10u:=Zab N10 hb1)
   obtain ⟨o0,o1,o2,o3⟩:=cellsP4 N9u
   refine Zan (by kernel_rfl) (by kernel_rfl) ?_
   have hx:=Zbg w1
   repeat (go_big_quiet_step (first | (go_at_call 116;with_reducible exact Calls.ext_of_below (qO _))))
   refine wpQuiet_nil ?_
   rintro _ ⟨wt,rfl⟩
   have hbx:=Zam w1 wt
   clear hx
   have hbV:=hbU.trans (hbx.mono hbU.size)
   have N9v:=Zab N9u hbx
   have N10v:=Zab N10u hbx
   clear o0 o1 o2 o3 k0
   generalize ext w1 wt=V at *
   have k0:V.cell? na=some (.bool true):=(hN.below hbV).1 _ rfl
   cases hE:((en:Int)==(at_:Int))
   ·go_wp2_with (go_at_call 65;with_reducible refine (qE _ hbV).mono ?_;rintro e w4 ⟨rfl,hb4⟩;have hbW:=hbV.trans (hb4.mono hbV.size);have N10w:=Zab N10v hb4;have i0:w4.cell? ⟨w.heap.size+1,0,none⟩=some (.int .i64 0):=Zag N10w rfl;have i1:w4.cell? ⟨w.heap.size+1,1,none⟩=some (.int .i64 0):=Zag N10w rfl;have i2:w4.cell? ⟨w.heap.size+1,2,none⟩=some (.int .i64 0):=Zag N10w rfl)
    go_ret
    exact ⟨rfl,hbW⟩
   ·cases hB:(begins x way != (at_:Int))
    ·go_wp2_with (first
      | (go_at_call 224;with_reducible refine (qI _).mono ?_;rintro e w6 ⟨rfl,hb6⟩;have hbY:=hbX.trans (hb6.mono hbX.size))
      | (go_at_call 64;with_reducible refine (qB _ hbW).mono ?_;rintro e w5 ⟨rfl,hb5⟩;have hbX:=hbW.trans (hb5.mono hbW.size);have N10x:=Zab N10w hb5;have i0:w5.cell? ⟨w.heap.size+1,0,none⟩=some (.int .i64 0):=Zag N10x rfl;have i1:w5.cell? ⟨w.heap.size+1,1,none⟩=some (.int .i64 0):=Zag N10x rfl;have i2:w5.cell? ⟨w.heap.size+1,2,none⟩=some (.int .i64 0):=Zag N10x rfl)
      | (go_at_call 65;with_reducible refine (qE _ hbV).mono ?_;rintro e w4 ⟨rfl,hb4⟩;have hbW:=hbV.trans (hb4.mono hbV.size);have N10w:=Zab N10v hb4))
     go_ret
     exact ⟨rfl,hbX⟩
    ·go_wp2_with (first
      | (go_at_call 224;with_reducible refine (qI _).mono ?_;rintro e w6 ⟨rfl,hb6⟩;have hbY:=hbX.trans (hb6.mono hbX.size))
      | (go_at_call 64;with_reducible refine (qB _ hbW).mono ?_;rintro e w5 ⟨rfl,hb5⟩;have hbX:=hbW.trans (hb5.mono hbW.size);have N10x:=Zab N10w hb5;have i0:w5.cell? ⟨w.heap.size+1,0,none⟩=some (.int .i64 0):=Zag N10x rfl;have i1:w5.cell? ⟨w.heap.size+1,1,none⟩=some (.int .i64 0):=Zag N10x rfl;have i2:w5.cell? ⟨w.heap.size+1,2,none⟩=some (.int .i64 0):=Zag N10x rfl)
      | (go_at_call 65;with_reducible refine (qE _ hbV).mono ?_;rintro e w4 ⟨rfl,hb4⟩;have hbW:=hbV.trans (hb4.mono hbV.size);have N10w:=Zab N10v hb4))
     go_ret
     exact ⟨rfl,hbY⟩
  ·rw [hF] at qF
   go_wp2_with (go_at_call 117;with_reducible refine (qF _ hb0).mono ?_;rintro e w1 ⟨rfl,hb1⟩;have hbU:=hb0.trans (hb1.mono hb0.size);have N9u:=Zab N9 hb1;have N10u:=Zab N10 hb1)
   obtain ⟨o0,o1,o2,o3⟩:=cellsP4 N9u
   have k1:w1.cell? ⟨na.block,na.off+1,none⟩=some (.int .i64 1):=(hN.below hbU).2 1 _ (by decide) rfl;have k8:w1.cell? ⟨na.block,na.off+8,none⟩=some (.slice (some ad6) n c6):=(hN.below hbU).2 8 _ (by decide) rfl
   have b0:=Zaa hbU g0
   refine Zan (by kernel_rfl) (by kernel_rfl) ?_
   have hx:=Zbg w1
   repeat (go_big_quiet_step (first | (go_at_call 223;with_reducible exact Calls.ext_of_below (qK _)) | (go_at_call 65;with_reducible exact Calls.ext_of_below (qE _ (hbU.trans ((Zam _ _).mono hbU.size))))))
   refine wpQuiet_nil ?_
   rintro _ ⟨wt,rfl⟩
   have hbx:=Zam w1 wt
   clear hx
   have hbV:=hbU.trans (hbx.mono hbU.size)
   have N9v:=Zab N9u hbx
   have N10v:=Zab N10u hbx
   clear o0 o1 o2 o3 k0 k1 k8 b0
   generalize ext w1 wt=V at *
   have k0:V.cell? na=some (.bool true):=(hN.below hbV).1 _ rfl
   cases hE:((en:Int)==(at_:Int))
   ·go_wp2_with (go_at_call 65;with_reducible refine (qE _ hbV).mono ?_;rintro e w4 ⟨rfl,hb4⟩;have hbW:=hbV.trans (hb4.mono hbV.size);have N10w:=Zab N10v hb4;have i0:w4.cell? ⟨w.heap.size+1,0,none⟩=some (.int .i64 0):=Zag N10w rfl;have i1:w4.cell? ⟨w.heap.size+1,1,none⟩=some (.int .i64 0):=Zag N10w rfl;have i2:w4.cell? ⟨w.heap.size+1,2,none⟩=some (.int .i64 0):=Zag N10w rfl)
    go_ret
    exact ⟨rfl,hbW⟩
   ·cases hB:(begins x way != (at_:Int))
    ·go_wp2_with (first
      | (go_at_call 224;with_reducible refine (qI _).mono ?_;rintro e w6 ⟨rfl,hb6⟩;have hbY:=hbX.trans (hb6.mono hbX.size))
      | (go_at_call 64;with_reducible refine (qB _ hbW).mono ?_;rintro e w5 ⟨rfl,hb5⟩;have hbX:=hbW.trans (hb5.mono hbW.size);have N10x:=Zab N10w hb5;have i0:w5.cell? ⟨w.heap.size+1,0,none⟩=some (.int .i64 0):=Zag N10x rfl;have i1:w5.cell? ⟨w.heap.size+1,1,none⟩=some (.int .i64 0):=Zag N10x rfl;have i2:w5.cell? ⟨w.heap.size+1,2,none⟩=some (.int .i64 0):=Zag N10x rfl)
      | (go_at_call 65;with_reducible refine (qE _ hbV).mono ?_;rintro e w4 ⟨rfl,hb4⟩;have hbW:=hbV.trans (hb4.mono hbV.size);have N10w:=Zab N10v hb4))
     go_ret
     exact ⟨rfl,hbX⟩
    ·go_wp2_with (first
      | (go_at_call 224;with_reducible refine (qI _).mono ?_;rintro e w6 ⟨rfl,hb6⟩;have hbY:=hbX.trans (hb6.mono hbX.size))
      | (go_at_call 64;with_reducible refine (qB _ hbW).mono ?_;rintro e w5 ⟨rfl,hb5⟩;have hbX:=hbW.trans (hb5.mono hbW.size);have N10x:=Zab N10w hb5;have i0:w5.cell? ⟨w.heap.size+1,0,none⟩=some (.int .i64 0):=Zag N10x rfl;have i1:w5.cell? ⟨w.heap.size+1,1,none⟩=some (.int .i64 0):=Zag N10x rfl;have i2:w5.cell? ⟨w.heap.size+1,2,none⟩=some (.int .i64 0):=Zag N10x rfl)
      | (go_at_call 65;with_reducible refine (qE _ hbV).mono ?_;rintro e w4 ⟨rfl,hb4⟩;have hbW:=hbV.trans (hb4.mono hbV.size);have N10w:=Zab N10v hb4))
     go_ret
     exact ⟨rfl,hbY⟩
 ·skip
  have hb0:Below w.heap.size w (((w.alloc (.cells #[.int .i64 0,.int .i64 0,.int .i64 0] 170)).alloc (.cells #[.int .i64 1,.int .i64 0,.int .i64 0,.int .i64 0] 167)).drew):=Zat (((Below.refl w.heap.size w).alloc nlr_ _).alloc (by simp) _)
  have N10:(((w.alloc (.cells #[.int .i64 0,.int .i64 0,.int .i64 0] 170)).alloc (.cells #[.int .i64 1,.int .i64 0,.int .i64 0,.int .i64 0] 167)).drew).heap[w.heap.size]? = some (.cells #[.int .i64 0,.int .i64 0,.int .i64 0] 170 (0,0)):=Zdb (Zal (Zas w _) _)
  have N9:(((w.alloc (.cells #[.int .i64 0,.int .i64 0,.int .i64 0] 170)).alloc (.cells #[.int .i64 1,.int .i64 0,.int .i64 0,.int .i64 0] 167)).drew).heap[w.heap.size+1]? = some (.cells #[.int .i64 1,.int .i64 0,.int .i64 0,.int .i64 0] 167 (0,0)):=Zdb (Zbs (w.alloc (.cells #[.int .i64 0,.int .i64 0,.int .i64 0] 170)) _ (by simp))
  generalize hW:(((w.alloc (.cells #[.int .i64 0,.int .i64 0,.int .i64 0] 170)).alloc (.cells #[.int .i64 1,.int .i64 0,.int .i64 0,.int .i64 0] 167)).drew)=W at *
  simp only [Zdr,Zez]
  rw [hW]
  clear hW k0 k1 k6 k7 o0 o1 o2 o3 i0 i1 i2 a0 a1 a2 a3 a4 a5 a6 a7 a8
  have k0:W.cell? na=some (.bool true):=(hN.below hb0).1 _ rfl
  cases hF:Zul x way at_
  ·rw [hF] at qF
   go_wp2_with (go_at_call 117;with_reducible refine (qF _ hb0).mono ?_;rintro e w1 ⟨rfl,hb1⟩;have hbU:=hb0.trans (hb1.mono hb0.size);have N9u:=Zab N9 hb1;have N10u:=Zab N10 hb1)
   obtain ⟨o0,o1,o2,o3⟩:=cellsP4 N9u
   refine Zan (by kernel_rfl) (by kernel_rfl) ?_
   have hx:=Zbg w1
   repeat (go_big_quiet_step (first | (go_at_call 116;with_reducible exact Calls.ext_of_below (qO _))))
   refine wpQuiet_nil ?_
   rintro _ ⟨wt,rfl⟩
   have hbx:=Zam w1 wt
   clear hx
   have hbV:=hbU.trans (hbx.mono hbU.size)
   have N9v:=Zab N9u hbx
   have N10v:=Zab N10u hbx
   clear o0 o1 o2 o3 k0
   generalize ext w1 wt=V at *
   have k0:V.cell? na=some (.bool true):=(hN.below hbV).1 _ rfl
   cases hE:((en:Int)==(at_:Int))
   ·go_wp2_with (go_at_call 65;with_reducible refine (qE _ hbV).mono ?_;rintro e w4 ⟨rfl,hb4⟩;have hbW:=hbV.trans (hb4.mono hbV.size);have N10w:=Zab N10v hb4;have i0:w4.cell? ⟨w.heap.size,0,none⟩=some (.int .i64 0):=Zag N10w rfl;have i1:w4.cell? ⟨w.heap.size,1,none⟩=some (.int .i64 0):=Zag N10w rfl;have i2:w4.cell? ⟨w.heap.size,2,none⟩=some (.int .i64 0):=Zag N10w rfl)
    go_ret
    exact ⟨rfl,hbW⟩
   ·cases hB:(begins x way != (at_:Int))
    ·go_wp2_with (first
      | (go_at_call 224;with_reducible refine (qI _).mono ?_;rintro e w6 ⟨rfl,hb6⟩;have hbY:=hbX.trans (hb6.mono hbX.size))
      | (go_at_call 64;with_reducible refine (qB _ hbW).mono ?_;rintro e w5 ⟨rfl,hb5⟩;have hbX:=hbW.trans (hb5.mono hbW.size);have N10x:=Zab N10w hb5;have i0:w5.cell? ⟨w.heap.size,0,none⟩=some (.int .i64 0):=Zag N10x rfl;have i1:w5.cell? ⟨w.heap.size,1,none⟩=some (.int .i64 0):=Zag N10x rfl;have i2:w5.cell? ⟨w.heap.size,2,none⟩=some (.int .i64 0):=Zag N10x rfl)
      | (go_at_call 65;with_reducible refine (qE _ hbV).mono ?_;rintro e w4 ⟨rfl,hb4⟩;have hbW:=hbV.trans (hb4.mono hbV.size);have N10w:=Zab N10v hb4))
     go_ret
     exact ⟨rfl,hbX⟩
    ·go_wp2_with (first
      | (go_at_call 224;with_reducible refine (qI _).mono ?_;rintro e w6 ⟨rfl,hb6⟩;have hbY:=hbX.trans (hb6.mono hbX.size))
      | (go_at_call 64;with_reducible refine (qB _ hbW).mono ?_;rintro e w5 ⟨rfl,hb5⟩;have hbX:=hbW.trans (hb5.mono hbW.size);have N10x:=Zab N10w hb5;have i0:w5.cell? ⟨w.heap.size,0,none⟩=some (.int .i64 0):=Zag N10x rfl;have i1:w5.cell? ⟨w.heap.size,1,none⟩=some (.int .i64 0):=Zag N10x rfl;have i2:w5.cell? ⟨w.heap.size,2,none⟩=some (.int .i64 0):=Zag N10x rfl)
      | (go_at_call 65;with_reducible refine (qE _ hbV).mono ?_;rintro e w4 ⟨rfl,hb4⟩;have hbW:=hbV.trans (hb4.mono hbV.size);have N10w:=Zab N10v hb4))
     go_ret
     exact ⟨rfl,hbY⟩
  ·rw [hF] at qF
   go_wp2_with (go_at_call 117;with_reducible refine (qF _ hb0).mono ?_;rintro e w1 ⟨rfl,hb1⟩;have hbU:=hb0.trans (hb1.mono hb0.size);have N9u:=Zab N9 hb1;have N10u:=Zab N10 hb1)
   obtain ⟨o0,o1,o2,o3⟩:=cellsP4 N9u
   have k1:w1.cell? ⟨na.block,na.off+1,none⟩=some (.int .i64 1):=(hN.below hbU).2 1 _ (by decide) rfl;have k8:w1.cell? ⟨na.block,na.off+8,none⟩=some (.slice (some ad6) n c6):=(hN.below hbU).2 8 _ (by decide) rfl
   have b0:=Zaa hbU g0
   refine Zan (by kernel_rfl) (by kernel_rfl) ?_
   have hx:=Zbg w1
   repeat (go_big_quiet_step (first | (go_at_call 223;with_reducible exact Calls.ext_of_below (qK _)) | (go_at_call 65;with_reducible exact Calls.ext_of_below (qE _ (hbU.trans ((Zam _ _).mono hbU.size))))))
   refine wpQuiet_nil ?_
   rintro _ ⟨wt,rfl⟩
   have hbx:=Zam w1 wt
   clear hx
   have hbV:=hbU.trans (hbx.mono hbU.size)
   have N9v:=Zab N9u hbx
   have N10v:=Zab N10u hbx
   clear o0 o1 o2 o3 k0 k1 k8 b0
   generalize ext w1 wt=V at *
   have k0:V.cell? na=some (.bool true):=(hN.below hbV).1 _ rfl
   cases hE:((en:Int)==(at_:Int))
   ·go_wp2_with (go_at_call 65;with_reducible refine (qE _ hbV).mono ?_;rintro e w4 ⟨rfl,hb4⟩;have hbW:=hbV.trans (hb4.mono hbV.size);have N10w:=Zab N10v hb4;have i0:w4.cell? ⟨w.heap.size,0,none⟩=some (.int .i64 0):=Zag N10w rfl;have i1:w4.cell? ⟨w.heap.size,1,none⟩=some (.int .i64 0):=Zag N10w rfl;have i2:w4.cell? ⟨w.heap.size,2,none⟩=some (.int .i64 0):=Zag N10w rfl)
    go_ret
    exact ⟨rfl,hbW⟩
   ·cases hB:(begins x way != (at_:Int))
    ·go_wp2_with (first
      | (go_at_call 224;with_reducible refine (qI _).mono ?_;rintro e w6 ⟨rfl,hb6⟩;have hbY:=hbX.trans (hb6.mono hbX.size))
      | (go_at_call 64;with_reducible refine (qB _ hbW).mono ?_;rintro e w5 ⟨rfl,hb5⟩;have hbX:=hbW.trans (hb5.mono hbW.size);have N10x:=Zab N10w hb5;have i0:w5.cell? ⟨w.heap.size,0,none⟩=some (.int .i64 0):=Zag N10x rfl;have i1:w5.cell? ⟨w.heap.size,1,none⟩=some (.int .i64 0):=Zag N10x rfl;have i2:w5.cell? ⟨w.heap.size,2,none⟩=some (.int .i64 0):=Zag N10x rfl)
      | (go_at_call 65;with_reducible refine (qE _ hbV).mono ?_;rintro e w4 ⟨rfl,hb4⟩;have hbW:=hbV.trans (hb4.mono hbV.size);have N10w:=Zab N10v hb4))
     go_ret
     exact ⟨rfl,hbX⟩
    ·go_wp2_with (first
      | (go_at_call 224;with_reducible refine (qI _).mono ?_;rintro e w6 ⟨rfl,hb6⟩;have hbY:=hbX.trans (hb6.mono hbX.size))
      | (go_at_call 64;with_reducible refine (qB _ hbW).mono ?_;rintro e w5 ⟨rfl,hb5⟩;have hbX:=hbW.trans (hb5.mono hbW.size);have N10x:=Zab N10w hb5;have i0:w5.cell? ⟨w.heap.size,0,none⟩=some (.int .i64 0):=Zag N10x rfl;have i1:w5.cell? ⟨w.heap.size,1,none⟩=some (.int .i64 0):=Zag N10x rfl;have i2:w5.cell? ⟨w.heap.size,2,none⟩=some (.int .i64 0):=Zag N10x rfl)
      | (go_at_call 65;with_reducible refine (qE _ hbV).mono ?_;rintro e w4 ⟨rfl,hb4⟩;have hbW:=hbV.trans (hb4.mono hbV.size);have N10w:=Zab N10v hb4))
     go_ret
     exact ⟨rfl,hbY⟩
end Go.Proofs.YtaeckoinpllpnaaGreat
namespace Go.Proofs.YtaeckoinpllpnaaGreat
open Go.RowKit Go.Proofs.YtaeckoinpllpnaaGreatW.PrintWords Go.Proofs.YtaeckoinpllpnaaGreatW.PrintLast
theorem Zkp (x:Pln) (n:Nat) (hx:Sane x n) (ps:List Value) (w:World) (hP:allK w x kPln ps) (b:Int) (up:Bool) (hu:(b=0∧up=false)∨(b=1∧up=true)) (A1 A2 A3 A4 A5 A6 A7:Option Addr) (c1 c2 c3 c4 c5 c6 c7:Nat) (hR:NoR w x n A1 A2 A3 A4 A5 A6 A7) (at_:Nat) :
  Calls Tryz.prog 128 #[.agg ps.toArray,.agg #[.bool up,.int .i64 b,.int .i64 0,.slice A1 x.cells.length c1,.slice A2 x.ways.length c2,.slice A3 x.ways.length c3,.slice A4 x.ways.length c4,.slice A5 x.ways.length c5,.slice A6 n c6,.slice A7 n c7],.int .i64 at_] w fun e w'=>e=.returned (.bool true)∧Below w.heap.size w w':=by
 have hPP:=hP
 have hxx:=hx
 obtain ⟨B1,d1,B2,d2,B3,d3,B4,d4,rfl,l1,r1,l2,r2,l3,r3,l4,r4⟩:=Zcs hP
 obtain ⟨hn,n1,n4,hcel,hway,hdep,hend,hnod⟩:=hx
 clear hn
 obtain ⟨W,eW,hb0,Np,Nn⟩:=new2 w (.cells #[.int .i64 x.nodes,.int .i64 x.secret,.int .i64 x.fuel,.slice B1 x.cells.length d1,.slice B2 x.ways.length d2,.slice B3 x.slots.length d3,.slice B4 x.turns.length d4] 33) (.cells #[.bool up,.int .i64 b,.int .i64 0,.slice A1 x.cells.length c1,.slice A2 x.ways.length c2,.slice A3 x.ways.length c3,.slice A4 x.ways.length c4,.slice A5 x.ways.length c5,.slice A6 n c6,.slice A7 n c7] 98)
 go_enter Tryz.func128,Tryz.ntmps128
 go_upto_region 1 with (fail)
 refine wp_at eW ?_
 clear eW
 obtain ⟨-,-,-,p3⟩:=cellsP4 Np;obtain ⟨-,-,-,k3⟩:=cellsP4 Nn
 go_wp2
 clear p3 k3
 go_loopw [7] (fun i wr=>∃ k:Nat,k≤x.cells.length∧i=.int .i64 k∧Below W.heap.size W wr) (fun i _=>x.cells.length-(intOf i).toNat)
 case atStart=>exact ⟨0,Nat.zero_le _,rfl,brf_⟩
 case round =>
  obtain ⟨k,hk,rfl,hb⟩:=hrel
  have hbw:=hb0.trans (hb.mono hb0.size)
  have Np1:=Zab Np hb
  have Nn1:=Zab Nn hb
  obtain ⟨-,-,-,k3⟩:=cellsP4 Nn1
  by_cases hlt:k<x.cells.length
  ·obtain ⟨z,hz⟩:=Zar x.cells hlt
   obtain ⟨ad,cs,eA,hck,h0,hi⟩:=Zce (Zac hR.r1 hbw) (Zgp (fun _=>Zbt) hz)
   have hcc:=hck
   obtain ⟨C1,e1,C2,e2,C3,e3,rfl,-,-,-,-,-,-⟩:=Zfp hck
   obtain ⟨bd,D1,g1,eB,z0,z1,z2,z3,z4,m2,s2⟩:=Zed (Zac r1 hbw) hz
   subst eA
   subst eB
   have u0:wr.cell? (ad.add (k*5))=some (.int .i64 0):=h0 _ rfl
   have u1:wr.cell? ⟨(ad.add (k*5)).block,(ad.add (k*5)).off+1,none⟩=some (.slice C1 4 e1):=hi 1 _ (by decide) rfl
   have u2:wr.cell? ⟨(ad.add (k*5)).block,(ad.add (k*5)).off+2,none⟩=some (.slice C2 8 e2):=hi 2 _ (by decide) rfl
   have u3:wr.cell? ⟨(ad.add (k*5)).block,(ad.add (k*5)).off+3,none⟩=some (.int .i64 0):=hi 3 _ (by decide) rfl
   have u4:wr.cell? ⟨(ad.add (k*5)).block,(ad.add (k*5)).off+4,none⟩=some (.slice C3 0 e3):=hi 4 _ (by decide) rfl
   have q1:=fun (w1:World) (h:Below wr.heap.size wr w1)=>Zrz _ w1 (Zai h hcc)
   have q2:=fun (w1:World) (h:Below wr.heap.size wr w1) (ds:List Value) (hd:allK w1 Zbt Zby ds)=>Zjx _ ds w1 (Zai h hcc) hd
   change ∀ w1:World,_→Calls _ _ #[.agg #[.int .i64 0,.slice C1 4 e1,.slice C2 8 e2,.int .i64 0,.slice C3 0 e3]] _ _ at q1
   change ∀ w1:World,_→∀ ds:List Value,_→Calls _ _ #[.agg #[.int .i64 0,.slice C1 4 e1,.slice C2 8 e2,.int .i64 0,.slice C3 0 e3],.agg ds.toArray] _ _ at q2
   have hm0:decide ((z.code.length:Int)<(0:Int))=false:=decide_eq_false (by omega)
   go_upto_region 7 with (fail)
   obtain ⟨V,eW,hb2,N8⟩:=new1 wr (.cells #[.int .i64 0,.slice C1 4 e1,.slice C2 8 e2,.int .i64 0,.slice C3 0 e3] 103)
   refine wp_at eW ?_
   clear eW
   have Np2:=Zab Np1 hb2
   have Nn2:=Zab Nn1 hb2
   have hbV:=hb.trans (hb2.mono hb.size)
   clear u0 u1 u2 u3 u4 k3
   obtain ⟨v0,v1,v2,v3,v4⟩:=cellsP5 N8
   replace z0:=Zaa hb2 z0;replace z1:=Zaa hb2 z1;replace z2:=Zaa hb2 z2;replace z3:=Zaa hb2 z3;replace z4:=Zaa hb2 z4
   have k0:=cellsP1 Nn2;obtain ⟨-,-,-,p3⟩:=cellsP4 Np2
   cases hE:(z.node != (at_:Int))
   ·cases up
    ·skip
     have hdr:=Zat hb2
     refine Zfm (n:=37) (S:=fun w'=>w'.cell? ⟨wr.heap.size,0,none⟩=some (.int .i64 0)∧w'.cell? ⟨wr.heap.size,1,none⟩=some (.slice C1 4 e1)∧w'.cell? ⟨wr.heap.size,2,none⟩=some (.slice C2 8 e2)∧w'.cell? ⟨wr.heap.size,3,none⟩=some (.int .i64 0)∧w'.cell? ⟨wr.heap.size,4,none⟩=some (.slice C3 0 e3)∧w'.cell? ⟨w.heap.size+1,0,none⟩=some (.bool false)∧w'.cell? ⟨w.heap.size,3,none⟩=some (.slice (some bd) x.cells.length d1)∧w'.cell? (bd.add (k*5))=some (.int .i64 z.node)∧w'.cell? ⟨(bd.add (k*5)).block,(bd.add (k*5)).off+4,none⟩=some (.slice D1 z.code.length g1)) (ds:=[]) (upB 37 0) (by kernel_rfl) rfl rfl ⟨v0,v1,v2,v3,v4,k0,p3,z0,z4⟩ (fun hHeld=>?_)
     generalize V.drew=Wd at *
     refine Zbz (i:=0) (N:=some 28) (upB 37 1) rfl rfl (by kernel_rfl) (fun _ _ _ h=>h) (Or.inl ⟨by rfl,by rintro w' ⟨s0,s1,s2,s3,s4,s5,s6,s7,s8⟩;go_simp;with_reducible rfl⟩) hHeld (by simp only [Act.put,pkA,pkB,pkC];rfl) ?_
     refine one_ (i:=1) (N:=some 29) (upB 37 2) rfl rfl (by kernel_rfl) (by decide) (fun K hK=>?_)
     refine Zfw Tryz.func172 (by kernel_rfl) rfl #[.agg #[.int .i64 0,.slice C1 4 e1,.slice C2 8 e2,.int .i64 0,.slice C3 0 e3]] (by rfl) rfl rfl (by (try simp only [List.map_toArray,List.map_cons,List.map_nil]);first | done | rfl) ?_
     with_reducible refine (q1 Wd hdr).mono ?_
     rintro e w1 ⟨rfl,hb1⟩
     refine ⟨_,rfl, ?_⟩
     refine hK.out _ _ ⟨Zaa hb1 hHeld.1,Zaa hb1 hHeld.2.1,Zaa hb1 hHeld.2.2.1,Zaa hb1 hHeld.2.2.2.1,Zaa hb1 hHeld.2.2.2.2.1,Zaa hb1 hHeld.2.2.2.2.2.1,Zaa hb1 hHeld.2.2.2.2.2.2.1,Zaa hb1 hHeld.2.2.2.2.2.2.2.1,Zaa hb1 hHeld.2.2.2.2.2.2.2.2⟩ (fun hHeld=>?_)
     clear hK K
     refine Zbb (a':=?_) ?_ ?_
     rotate_left
     ·show Act.put _ (some 29) _=_
      simp only [Act.put,pkA,pkB,pkC]
      rfl
     refine Zap (i:=2) (N:=some 30) (upB 37 3) rfl rfl (by kernel_rfl) (fun _ _ _ h=>h) (Or.inl ⟨by rfl,fun w'=>by go_simp;with_reducible rfl⟩) (by simp only [Act.put,pkA,pkB,pkC];rfl) ?_
     refine Zap (i:=3) (N:=some 31) (upB 37 4) rfl rfl (by kernel_rfl) (fun _ _ _ h=>h) (Or.inl ⟨by rfl,fun w'=>by go_simp;with_reducible rfl⟩) (by simp only [Act.put,pkA,pkB,pkC];rfl) ?_
     refine Zap (i:=4) (N:=some 32) (upB 37 5) rfl rfl (by kernel_rfl) (fun _ _ _ h=>h) (Or.inl ⟨by rfl,fun w'=>by go_simp;with_reducible rfl⟩) (by simp only [Act.put,pkA,pkB,pkC];rfl) ?_
     refine Zap (i:=5) (N:=some 33) (upB 37 6) rfl rfl (by kernel_rfl) (fun _ _ _ h=>h) (Or.inl ⟨by rfl,fun w'=>by go_simp;with_reducible rfl⟩) (by simp only [Act.put,pkA,pkB,pkC];rfl) ?_
     refine Zbz (i:=6) (N:=some 34) (upB 37 7) rfl rfl (by kernel_rfl) (fun _ _ _ h=>h) (Or.inl ⟨by rfl,by rintro w' ⟨s0,s1,s2,s3,s4,s5,s6,s7,s8⟩;go_simp;with_reducible rfl⟩) hHeld (by simp only [Act.put,pkA,pkB,pkC];rfl) ?_
     refine Zap (i:=7) (N:=some 35) (upB 37 8) rfl rfl (by kernel_rfl) (fun _ _ _ h=>h) (Or.inl ⟨by rfl,fun w'=>by go_simp;with_reducible rfl⟩) (by simp only [Act.put,pkA,pkB,pkC];rfl) ?_
     refine Zbz (i:=8) (N:=some 36) (upB 37 9) rfl rfl (by kernel_rfl) (fun _ _ _ h=>h) (Or.inl ⟨by rfl,by rintro w' ⟨s0,s1,s2,s3,s4,s5,s6,s7,s8⟩;go_simp;with_reducible rfl⟩) hHeld (by simp only [Act.put,pkA,pkB,pkC];rfl) ?_
     refine Zap (i:=9) (N:=some 37) (upB 37 10) rfl rfl (by kernel_rfl) (fun _ _ _ h=>h) (Or.inl ⟨by rfl,fun w'=>by go_simp;with_reducible rfl⟩) (by simp only [Act.put,pkA,pkB,pkC];rfl) ?_
     refine Zap (i:=10) (N:=some 38) (upB 37 11) rfl rfl (by kernel_rfl) (fun _ _ _ h=>h) (Or.inl ⟨by rfl,fun w'=>by go_simp;with_reducible rfl⟩) (by simp only [Act.put,pkA,pkB,pkC];rfl) ?_
     refine Zap (i:=11) (N:=some 39) (upB 37 12) rfl rfl (by kernel_rfl) (fun _ _ _ h=>h) (Or.inl ⟨by rfl,fun w'=>by go_simp;with_reducible rfl⟩) (by simp only [Act.put,pkA,pkB,pkC];rfl) ?_
     refine Zbz (i:=12) (N:=some 40) (upB 37 13) rfl rfl (by kernel_rfl) (fun _ _ _ h=>h) (Or.inl ⟨by rfl,by rintro w' ⟨s0,s1,s2,s3,s4,s5,s6,s7,s8⟩;go_simp;with_reducible rfl⟩) hHeld (by simp only [Act.put,pkA,pkB,pkC];rfl) ?_
     refine Zap (i:=13) (N:=some 41) (upB 37 14) rfl rfl (by kernel_rfl) (fun _ _ _ h=>h) (Or.inl ⟨by rfl,fun w'=>by go_simp;with_reducible rfl⟩) (by simp only [Act.put,pkA,pkB,pkC];rfl) ?_
     refine Zap (i:=14) (N:=some 42) (upB 37 15) rfl rfl (by kernel_rfl) (fun _ _ _ h=>h) (Or.inl ⟨by rfl,fun w'=>by go_simp;with_reducible rfl⟩) (by simp only [Act.put,pkA,pkB,pkC];rfl) ?_
     refine Zap (i:=15) (N:=some 43) (upB 37 16) rfl rfl (by kernel_rfl) (fun _ _ _ h=>h) (Or.inl ⟨by rfl,fun w'=>by go_simp;with_reducible rfl⟩) (by simp only [Act.put,pkA,pkB,pkC];rfl) ?_
     refine Zap (i:=16) (N:=some 44) (upB 37 17) rfl rfl (by kernel_rfl) (fun _ _ _ h=>h) (Or.inl ⟨by rfl,fun w'=>by go_simp;with_reducible rfl⟩) (by simp only [Act.put,pkA,pkB,pkC];rfl) ?_
     refine Zap (i:=17) (N:=some 45) (upB 37 18) rfl rfl (by kernel_rfl) (fun _ _ _ h=>h) (Or.inl ⟨by rfl,fun w'=>by go_simp;with_reducible rfl⟩) (by simp only [Act.put,pkA,pkB,pkC];rfl) ?_
     refine Zbz (i:=18) (N:=some 46) (upB 37 19) rfl rfl (by kernel_rfl) (fun _ _ _ h=>h) (Or.inl ⟨by rfl,by rintro w' ⟨s0,s1,s2,s3,s4,s5,s6,s7,s8⟩;go_simp;with_reducible rfl⟩) hHeld (by simp only [Act.put,pkA,pkB,pkC];rfl) ?_
     refine Zap (i:=19) (N:=some 47) (upB 37 20) rfl rfl (by kernel_rfl) (fun _ _ _ h=>h) (Or.inl ⟨by rfl,fun w'=>by go_simp;with_reducible rfl⟩) (by simp only [Act.put,pkA,pkB,pkC];rfl) ?_
     refine Zap (i:=20) (N:=some 48) (upB 37 21) rfl rfl (by kernel_rfl) (fun _ _ _ h=>h) (Or.inl ⟨by rfl,fun w'=>by go_simp;with_reducible rfl⟩) (by simp only [Act.put,pkA,pkB,pkC];rfl) ?_
     refine Zap (i:=21) (N:=some 49) (upB 37 22) rfl rfl (by kernel_rfl) (fun _ _ _ h=>h) (Or.inl ⟨by rfl,fun w'=>by go_simp;with_reducible rfl⟩) (by simp only [Act.put,pkA,pkB,pkC];rfl) ?_
     refine Zbz (i:=22) (N:=some 50) (upB 37 23) rfl rfl (by kernel_rfl) (fun _ _ _ h=>h) (Or.inl ⟨by rfl,by rintro w' ⟨s0,s1,s2,s3,s4,s5,s6,s7,s8⟩;go_simp;with_reducible rfl⟩) hHeld (by simp only [Act.put,pkA,pkB,pkC];rfl) ?_
     refine Zap (i:=23) (N:=some 51) (upB 37 24) rfl rfl (by kernel_rfl) (fun _ _ _ h=>h) (Or.inl ⟨by rfl,fun w'=>by go_simp;with_reducible rfl⟩) (by simp only [Act.put,pkA,pkB,pkC];rfl) ?_
     refine Zap (i:=24) (N:=some 52) (upB 37 25) rfl rfl (by kernel_rfl) (fun _ _ _ h=>h) (Or.inl ⟨by rfl,fun w'=>by go_simp;with_reducible rfl⟩) (by simp only [Act.put,pkA,pkB,pkC];rfl) ?_
     refine Zap (i:=25) (N:=some 53) (upB 37 26) rfl rfl (by kernel_rfl) (fun _ _ _ h=>h) (Or.inl ⟨by rfl,fun w'=>by go_simp;with_reducible rfl⟩) (by simp only [Act.put,pkA,pkB,pkC];rfl) ?_
     refine Zap (i:=26) (N:=some 54) (upB 37 27) rfl rfl (by kernel_rfl) (fun _ _ _ h=>h) (Or.inl ⟨by rfl,fun w'=>by go_simp;with_reducible rfl⟩) (by simp only [Act.put,pkA,pkB,pkC];rfl) ?_
     refine Zbz (i:=27) (N:=some 55) (upB 37 28) rfl rfl (by kernel_rfl) (fun _ _ _ h=>h) (Or.inl ⟨by rfl,by rintro w' ⟨s0,s1,s2,s3,s4,s5,s6,s7,s8⟩;go_simp;with_reducible rfl⟩) hHeld (by simp only [Act.put,pkA,pkB,pkC];rfl) ?_
     refine Zap (i:=28) (N:=some 56) (upB 37 29) rfl rfl (by kernel_rfl) (fun _ _ _ h=>h) (Or.inl ⟨by rfl,fun w'=>by go_simp;with_reducible rfl⟩) (by simp only [Act.put,pkA,pkB,pkC];rfl) ?_
     refine Zap (i:=29) (N:=some 57) (upB 37 30) rfl rfl (by kernel_rfl) (fun _ _ _ h=>h) (Or.inl ⟨by rfl,fun w'=>by go_simp;with_reducible rfl⟩) (by simp only [Act.put,pkA,pkB,pkC];rfl) ?_
     refine Zap (i:=30) (N:=some 58) (upB 37 31) rfl rfl (by kernel_rfl) (fun _ _ _ h=>h) (Or.inl ⟨by rfl,fun w'=>by go_simp;with_reducible rfl⟩) (by simp only [Act.put,pkA,pkB,pkC];rfl) ?_
     refine Zbz (i:=31) (N:=some 59) (upB 37 32) rfl rfl (by kernel_rfl) (fun _ _ _ h=>h) (Or.inl ⟨by rfl,by rintro w' ⟨s0,s1,s2,s3,s4,s5,s6,s7,s8⟩;go_simp;with_reducible rfl⟩) hHeld (by simp only [Act.put,pkA,pkB,pkC];rfl) ?_
     refine one_ (i:=32) (N:=some 60) (upB 37 33) rfl rfl (by kernel_rfl) (by decide) (fun K hK=>?_)
     refine Zfw Tryz.func145 (by kernel_rfl) rfl #[] (by rfl) rfl rfl (by (try simp only [List.map_toArray,List.map_cons,List.map_nil]);first | done | rfl) ?_
     with_reducible refine (Zhe w1).mono ?_
     rintro e w3 ⟨⟨ds,rfl,hds⟩,hb3⟩
     refine ⟨_,rfl, ?_⟩
     refine hK.out _ _ ⟨Zaa hb3 hHeld.1,Zaa hb3 hHeld.2.1,Zaa hb3 hHeld.2.2.1,Zaa hb3 hHeld.2.2.2.1,Zaa hb3 hHeld.2.2.2.2.1,Zaa hb3 hHeld.2.2.2.2.2.1,Zaa hb3 hHeld.2.2.2.2.2.2.1,Zaa hb3 hHeld.2.2.2.2.2.2.2.1,Zaa hb3 hHeld.2.2.2.2.2.2.2.2⟩ (fun hHeld=>?_)
     clear hK K
     refine Zbb (a':=?_) ?_ ?_
     rotate_left
     ·show Act.put _ (some 60) _=_
      simp only [Act.put,pkA,pkB,pkC]
      rfl
     refine one_ (i:=33) (N:=some 61) (upB 37 34) rfl rfl (by kernel_rfl) (by decide) (fun K hK=>?_)
     refine Zfw Tryz.func173 (by kernel_rfl) rfl #[.agg #[.int .i64 0,.slice C1 4 e1,.slice C2 8 e2,.int .i64 0,.slice C3 0 e3],.agg ds.toArray] (by rfl) rfl rfl (by (try simp only [List.map_toArray,List.map_cons,List.map_nil]);first | done | rfl) ?_
     with_reducible refine (q2 w3 ((hdr.trans (hb1.mono hdr.size)).trans (hb3.mono (hdr.trans (hb1.mono hdr.size)).size)) ds (Zbh hds)).mono ?_
     rintro e w4 ⟨rfl,hb4⟩
     refine ⟨_,rfl, ?_⟩
     refine hK.out _ _ ⟨Zaa hb4 hHeld.1,Zaa hb4 hHeld.2.1,Zaa hb4 hHeld.2.2.1,Zaa hb4 hHeld.2.2.2.1,Zaa hb4 hHeld.2.2.2.2.1,Zaa hb4 hHeld.2.2.2.2.2.1,Zaa hb4 hHeld.2.2.2.2.2.2.1,Zaa hb4 hHeld.2.2.2.2.2.2.2.1,Zaa hb4 hHeld.2.2.2.2.2.2.2.2⟩ (fun hHeld=>?_)
     clear hK K
     refine Zbb (a':=?_) ?_ ?_
     rotate_left
     ·show Act.put _ (some 61) _=_
      simp only [Act.put,pkA,pkB,pkC]
      rfl
     refine Zap (i:=34) (N:=some 62) (upB 37 35) rfl rfl (by kernel_rfl) (fun _ _ _ h=>h) (Or.inl ⟨by rfl,fun w'=>by go_simp;with_reducible rfl⟩) (by simp only [Act.put,pkA,pkB,pkC];rfl) ?_
     refine Zap (i:=35) (N:=some 63) (upB 37 36) rfl rfl (by kernel_rfl) (fun _ _ _ h=>h) (Or.inl ⟨by rfl,fun w'=>by go_simp;with_reducible rfl⟩) (by simp only [Act.put,pkA,pkB,pkC];rfl) ?_
     refine Zap (i:=36) (N:=some 64) (upB 37 37) rfl rfl (by kernel_rfl) (fun _ _ _ h=>h) (Or.inl ⟨by rfl,fun w'=>by go_simp;with_reducible rfl⟩) (by simp only [Act.put,pkA,pkB,pkC];rfl) ?_
     refine Zgw (by kernel_rfl) ?_
     have hbf:=((hdr.trans (hb1.mono hdr.size)).trans (hb3.mono (hdr.trans (hb1.mono hdr.size)).size)).trans (hb4.mono ((hdr.trans (hb1.mono hdr.size)).trans (hb3.mono (hdr.trans (hb1.mono hdr.size)).size)).size)
     go_wp2
     refine ⟨⟨k+1,by omega,rfl,hb.trans (hbf.mono hb.size)⟩, ?_⟩
     simp [intOf]
     omega
    ·skip
     refine Zan (by kernel_rfl) (by kernel_rfl) ?_
     have hx:=Zbg V
     repeat (go_big_quiet_step (first | (go_at_call 172;with_reducible exact Calls.ext_of_below (q1 _ (hb2.trans ((Zam _ _).mono hb2.size))))))
     refine wpQuiet_nil ?_
     rintro _ ⟨wt,rfl⟩
     have hby:=Zam V wt
     clear hx
     go_wp2
     refine ⟨⟨k+1,by omega,rfl,hbV.trans (hby.mono hbV.size)⟩, ?_⟩
     simp [intOf]
     omega
   ·skip
    have hdr:=Zat hb2
    refine Zfm (n:=37) (S:=fun w'=>w'.cell? ⟨wr.heap.size,0,none⟩=some (.int .i64 0)∧w'.cell? ⟨wr.heap.size,1,none⟩=some (.slice C1 4 e1)∧w'.cell? ⟨wr.heap.size,2,none⟩=some (.slice C2 8 e2)∧w'.cell? ⟨wr.heap.size,3,none⟩=some (.int .i64 0)∧w'.cell? ⟨wr.heap.size,4,none⟩=some (.slice C3 0 e3)∧w'.cell? ⟨w.heap.size+1,0,none⟩=some (.bool up)∧w'.cell? ⟨w.heap.size,3,none⟩=some (.slice (some bd) x.cells.length d1)∧w'.cell? (bd.add (k*5))=some (.int .i64 z.node)∧w'.cell? ⟨(bd.add (k*5)).block,(bd.add (k*5)).off+4,none⟩=some (.slice D1 z.code.length g1)) (ds:=[]) (upB 37 0) (by kernel_rfl) rfl rfl ⟨v0,v1,v2,v3,v4,k0,p3,z0,z4⟩ (fun hHeld=>?_)
    generalize V.drew=Wd at *
    refine Zbz (i:=0) (N:=some 28) (upB 37 1) rfl rfl (by kernel_rfl) (fun _ _ _ h=>h) (Or.inl ⟨by rfl,by rintro w' ⟨s0,s1,s2,s3,s4,s5,s6,s7,s8⟩;go_simp;with_reducible rfl⟩) hHeld (by simp only [Act.put,pkA,pkB,pkC];rfl) ?_
    refine one_ (i:=1) (N:=some 29) (upB 37 2) rfl rfl (by kernel_rfl) (by decide) (fun K hK=>?_)
    refine Zfw Tryz.func172 (by kernel_rfl) rfl #[.agg #[.int .i64 0,.slice C1 4 e1,.slice C2 8 e2,.int .i64 0,.slice C3 0 e3]] (by rfl) rfl rfl (by (try simp only [List.map_toArray,List.map_cons,List.map_nil]);first | done | rfl) ?_
    with_reducible refine (q1 Wd hdr).mono ?_
    rintro e w1 ⟨rfl,hb1⟩
    refine ⟨_,rfl, ?_⟩
    refine hK.out _ _ ⟨Zaa hb1 hHeld.1,Zaa hb1 hHeld.2.1,Zaa hb1 hHeld.2.2.1,Zaa hb1 hHeld.2.2.2.1,Zaa hb1 hHeld.2.2.2.2.1,Zaa hb1 hHeld.2.2.2.2.2.1,Zaa hb1 hHeld.2.2.2.2.2.2.1,Zaa hb1 hHeld.2.2.2.2.2.2.2.1,Zaa hb1 hHeld.2.2.2.2.2.2.2.2⟩ (fun hHeld=>?_)
    clear hK K
    refine Zbb (a':=?_) ?_ ?_
    rotate_left
    ·show Act.put _ (some 29) _=_
     simp only [Act.put,pkA,pkB,pkC]
     rfl
    refine Zap (i:=2) (N:=some 30) (upB 37 3) rfl rfl (by kernel_rfl) (fun _ _ _ h=>h) (Or.inl ⟨by rfl,fun w'=>by go_simp;with_reducible rfl⟩) (by simp only [Act.put,pkA,pkB,pkC];rfl) ?_
    refine Zap (i:=3) (N:=some 31) (upB 37 4) rfl rfl (by kernel_rfl) (fun _ _ _ h=>h) (Or.inl ⟨by rfl,fun w'=>by go_simp;with_reducible rfl⟩) (by simp only [Act.put,pkA,pkB,pkC];rfl) ?_
    refine Zap (i:=4) (N:=some 32) (upB 37 5) rfl rfl (by kernel_rfl) (fun _ _ _ h=>h) (Or.inl ⟨by rfl,fun w'=>by go_simp;with_reducible rfl⟩) (by simp only [Act.put,pkA,pkB,pkC];rfl) ?_
    refine Zap (i:=5) (N:=some 33) (upB 37 6) rfl rfl (by kernel_rfl) (fun _ _ _ h=>h) (Or.inl ⟨by rfl,fun w'=>by go_simp;with_reducible rfl⟩) (by simp only [Act.put,pkA,pkB,pkC];rfl) ?_
    refine Zbz (i:=6) (N:=some 34) (upB 37 7) rfl rfl (by kernel_rfl) (fun _ _ _ h=>h) (Or.inl ⟨by rfl,by rintro w' ⟨s0,s1,s2,s3,s4,s5,s6,s7,s8⟩;go_simp;with_reducible rfl⟩) hHeld (by simp only [Act.put,pkA,pkB,pkC];rfl) ?_
    refine Zap (i:=7) (N:=some 35) (upB 37 8) rfl rfl (by kernel_rfl) (fun _ _ _ h=>h) (Or.inl ⟨by rfl,fun w'=>by go_simp;with_reducible rfl⟩) (by simp only [Act.put,pkA,pkB,pkC];rfl) ?_
    refine Zbz (i:=8) (N:=some 36) (upB 37 9) rfl rfl (by kernel_rfl) (fun _ _ _ h=>h) (Or.inl ⟨by rfl,by rintro w' ⟨s0,s1,s2,s3,s4,s5,s6,s7,s8⟩;go_simp;with_reducible rfl⟩) hHeld (by simp only [Act.put,pkA,pkB,pkC];rfl) ?_
    refine Zap (i:=9) (N:=some 37) (upB 37 10) rfl rfl (by kernel_rfl) (fun _ _ _ h=>h) (Or.inl ⟨by rfl,fun w'=>by go_simp;with_reducible rfl⟩) (by simp only [Act.put,pkA,pkB,pkC];rfl) ?_
    refine Zap (i:=10) (N:=some 38) (upB 37 11) rfl rfl (by kernel_rfl) (fun _ _ _ h=>h) (Or.inl ⟨by rfl,fun w'=>by go_simp;with_reducible rfl⟩) (by simp only [Act.put,pkA,pkB,pkC];rfl) ?_
    refine Zap (i:=11) (N:=some 39) (upB 37 12) rfl rfl (by kernel_rfl) (fun _ _ _ h=>h) (Or.inl ⟨by rfl,fun w'=>by go_simp;with_reducible rfl⟩) (by simp only [Act.put,pkA,pkB,pkC];rfl) ?_
    refine Zbz (i:=12) (N:=some 40) (upB 37 13) rfl rfl (by kernel_rfl) (fun _ _ _ h=>h) (Or.inl ⟨by rfl,by rintro w' ⟨s0,s1,s2,s3,s4,s5,s6,s7,s8⟩;go_simp;with_reducible rfl⟩) hHeld (by simp only [Act.put,pkA,pkB,pkC];rfl) ?_
    refine Zap (i:=13) (N:=some 41) (upB 37 14) rfl rfl (by kernel_rfl) (fun _ _ _ h=>h) (Or.inl ⟨by rfl,fun w'=>by go_simp;with_reducible rfl⟩) (by simp only [Act.put,pkA,pkB,pkC];rfl) ?_
    refine Zap (i:=14) (N:=some 42) (upB 37 15) rfl rfl (by kernel_rfl) (fun _ _ _ h=>h) (Or.inl ⟨by rfl,fun w'=>by go_simp;with_reducible rfl⟩) (by simp only [Act.put,pkA,pkB,pkC];rfl) ?_
    refine Zap (i:=15) (N:=some 43) (upB 37 16) rfl rfl (by kernel_rfl) (fun _ _ _ h=>h) (Or.inl ⟨by rfl,fun w'=>by go_simp;with_reducible rfl⟩) (by simp only [Act.put,pkA,pkB,pkC];rfl) ?_
    refine Zap (i:=16) (N:=some 44) (upB 37 17) rfl rfl (by kernel_rfl) (fun _ _ _ h=>h) (Or.inl ⟨by rfl,fun w'=>by go_simp;with_reducible rfl⟩) (by simp only [Act.put,pkA,pkB,pkC];rfl) ?_
    refine Zap (i:=17) (N:=some 45) (upB 37 18) rfl rfl (by kernel_rfl) (fun _ _ _ h=>h) (Or.inl ⟨by rfl,fun w'=>by go_simp;with_reducible rfl⟩) (by simp only [Act.put,pkA,pkB,pkC];rfl) ?_
    refine Zbz (i:=18) (N:=some 46) (upB 37 19) rfl rfl (by kernel_rfl) (fun _ _ _ h=>h) (Or.inl ⟨by rfl,by rintro w' ⟨s0,s1,s2,s3,s4,s5,s6,s7,s8⟩;go_simp;with_reducible rfl⟩) hHeld (by simp only [Act.put,pkA,pkB,pkC];rfl) ?_
    refine Zap (i:=19) (N:=some 47) (upB 37 20) rfl rfl (by kernel_rfl) (fun _ _ _ h=>h) (Or.inl ⟨by rfl,fun w'=>by go_simp;with_reducible rfl⟩) (by simp only [Act.put,pkA,pkB,pkC];rfl) ?_
    refine Zap (i:=20) (N:=some 48) (upB 37 21) rfl rfl (by kernel_rfl) (fun _ _ _ h=>h) (Or.inl ⟨by rfl,fun w'=>by go_simp;with_reducible rfl⟩) (by simp only [Act.put,pkA,pkB,pkC];rfl) ?_
    refine Zap (i:=21) (N:=some 49) (upB 37 22) rfl rfl (by kernel_rfl) (fun _ _ _ h=>h) (Or.inl ⟨by rfl,fun w'=>by go_simp;with_reducible rfl⟩) (by simp only [Act.put,pkA,pkB,pkC];rfl) ?_
    refine Zbz (i:=22) (N:=some 50) (upB 37 23) rfl rfl (by kernel_rfl) (fun _ _ _ h=>h) (Or.inl ⟨by rfl,by rintro w' ⟨s0,s1,s2,s3,s4,s5,s6,s7,s8⟩;go_simp;with_reducible rfl⟩) hHeld (by simp only [Act.put,pkA,pkB,pkC];rfl) ?_
    refine Zap (i:=23) (N:=some 51) (upB 37 24) rfl rfl (by kernel_rfl) (fun _ _ _ h=>h) (Or.inl ⟨by rfl,fun w'=>by go_simp;with_reducible rfl⟩) (by simp only [Act.put,pkA,pkB,pkC];rfl) ?_
    refine Zap (i:=24) (N:=some 52) (upB 37 25) rfl rfl (by kernel_rfl) (fun _ _ _ h=>h) (Or.inl ⟨by rfl,fun w'=>by go_simp;with_reducible rfl⟩) (by simp only [Act.put,pkA,pkB,pkC];rfl) ?_
    refine Zap (i:=25) (N:=some 53) (upB 37 26) rfl rfl (by kernel_rfl) (fun _ _ _ h=>h) (Or.inl ⟨by rfl,fun w'=>by go_simp;with_reducible rfl⟩) (by simp only [Act.put,pkA,pkB,pkC];rfl) ?_
    refine Zap (i:=26) (N:=some 54) (v:=undef) (upB 37 27) rfl rfl (by kernel_rfl) (fun _ _ _ h=>h) (Or.inr ⟨by rfl,rfl⟩) (by simp only [Act.put,pkA,pkB,pkC];rfl) ?_
    refine Zap (i:=27) (N:=some 55) (v:=undef) (upB 37 28) rfl rfl (by kernel_rfl) (fun _ _ _ h=>h) (Or.inr ⟨by rfl,rfl⟩) (by simp only [Act.put,pkA,pkB,pkC];rfl) ?_
    refine Zap (i:=28) (N:=some 56) (v:=undef) (upB 37 29) rfl rfl (by kernel_rfl) (fun _ _ _ h=>h) (Or.inr ⟨by rfl,rfl⟩) (by simp only [Act.put,pkA,pkB,pkC];rfl) ?_
    refine Zap (i:=29) (N:=some 57) (upB 37 30) rfl rfl (by kernel_rfl) (fun _ _ _ h=>h) (Or.inl ⟨by rfl,fun w'=>by go_simp;with_reducible rfl⟩) (by simp only [Act.put,pkA,pkB,pkC];rfl) ?_
    refine Zap (i:=30) (N:=some 58) (upB 37 31) rfl rfl (by kernel_rfl) (fun _ _ _ h=>h) (Or.inl ⟨by rfl,fun w'=>by go_simp;with_reducible rfl⟩) (by simp only [Act.put,pkA,pkB,pkC];rfl) ?_
    refine Zbz (i:=31) (N:=some 59) (upB 37 32) rfl rfl (by kernel_rfl) (fun _ _ _ h=>h) (Or.inl ⟨by rfl,by rintro w' ⟨s0,s1,s2,s3,s4,s5,s6,s7,s8⟩;go_simp;with_reducible rfl⟩) hHeld (by simp only [Act.put,pkA,pkB,pkC];rfl) ?_
    refine one_ (i:=32) (N:=some 60) (upB 37 33) rfl rfl (by kernel_rfl) (by decide) (fun K hK=>?_)
    refine Zfw Tryz.func145 (by kernel_rfl) rfl #[] (by rfl) rfl rfl (by (try simp only [List.map_toArray,List.map_cons,List.map_nil]);first | done | rfl) ?_
    with_reducible refine (Zhe w1).mono ?_
    rintro e w3 ⟨⟨ds,rfl,hds⟩,hb3⟩
    refine ⟨_,rfl, ?_⟩
    refine hK.out _ _ ⟨Zaa hb3 hHeld.1,Zaa hb3 hHeld.2.1,Zaa hb3 hHeld.2.2.1,Zaa hb3 hHeld.2.2.2.1,Zaa hb3 hHeld.2.2.2.2.1,Zaa hb3 hHeld.2.2.2.2.2.1,Zaa hb3 hHeld.2.2.2.2.2.2.1,Zaa hb3 hHeld.2.2.2.2.2.2.2.1,Zaa hb3 hHeld.2.2.2.2.2.2.2.2⟩ (fun hHeld=>?_)
    clear hK K
    refine Zbb (a':=?_) ?_ ?_
    rotate_left
    ·show Act.put _ (some 60) _=_
     simp only [Act.put,pkA,pkB,pkC]
     rfl
    refine one_ (i:=33) (N:=some 61) (upB 37 34) rfl rfl (by kernel_rfl) (by decide) (fun K hK=>?_)
    refine Zfw Tryz.func173 (by kernel_rfl) rfl #[.agg #[.int .i64 0,.slice C1 4 e1,.slice C2 8 e2,.int .i64 0,.slice C3 0 e3],.agg ds.toArray] (by rfl) rfl rfl (by (try simp only [List.map_toArray,List.map_cons,List.map_nil]);first | done | rfl) ?_
    with_reducible refine (q2 w3 ((hdr.trans (hb1.mono hdr.size)).trans (hb3.mono (hdr.trans (hb1.mono hdr.size)).size)) ds (Zbh hds)).mono ?_
    rintro e w4 ⟨rfl,hb4⟩
    refine ⟨_,rfl, ?_⟩
    refine hK.out _ _ ⟨Zaa hb4 hHeld.1,Zaa hb4 hHeld.2.1,Zaa hb4 hHeld.2.2.1,Zaa hb4 hHeld.2.2.2.1,Zaa hb4 hHeld.2.2.2.2.1,Zaa hb4 hHeld.2.2.2.2.2.1,Zaa hb4 hHeld.2.2.2.2.2.2.1,Zaa hb4 hHeld.2.2.2.2.2.2.2.1,Zaa hb4 hHeld.2.2.2.2.2.2.2.2⟩ (fun hHeld=>?_)
    clear hK K
    refine Zbb (a':=?_) ?_ ?_
    rotate_left
    ·show Act.put _ (some 61) _=_
     simp only [Act.put,pkA,pkB,pkC]
     rfl
    refine Zap (i:=34) (N:=some 62) (upB 37 35) rfl rfl (by kernel_rfl) (fun _ _ _ h=>h) (Or.inl ⟨by rfl,fun w'=>by go_simp;with_reducible rfl⟩) (by simp only [Act.put,pkA,pkB,pkC];rfl) ?_
    refine Zap (i:=35) (N:=some 63) (upB 37 36) rfl rfl (by kernel_rfl) (fun _ _ _ h=>h) (Or.inl ⟨by rfl,fun w'=>by go_simp;with_reducible rfl⟩) (by simp only [Act.put,pkA,pkB,pkC];rfl) ?_
    refine Zap (i:=36) (N:=some 64) (upB 37 37) rfl rfl (by kernel_rfl) (fun _ _ _ h=>h) (Or.inl ⟨by rfl,fun w'=>by go_simp;with_reducible rfl⟩) (by simp only [Act.put,pkA,pkB,pkC];rfl) ?_
    refine Zgw (by kernel_rfl) ?_
    have hbf:=((hdr.trans (hb1.mono hdr.size)).trans (hb3.mono (hdr.trans (hb1.mono hdr.size)).size)).trans (hb4.mono ((hdr.trans (hb1.mono hdr.size)).trans (hb3.mono (hdr.trans (hb1.mono hdr.size)).size)).size)
    go_wp2
    refine ⟨⟨k+1,by omega,rfl,hb.trans (hbf.mono hb.size)⟩, ?_⟩
    simp [intOf]
    omega
  ·have e:k=x.cells.length:=by omega
   subst e
   go_wp2
   go_ret
   exact ⟨rfl,hbw⟩
end Go.Proofs.YtaeckoinpllpnaaGreat
