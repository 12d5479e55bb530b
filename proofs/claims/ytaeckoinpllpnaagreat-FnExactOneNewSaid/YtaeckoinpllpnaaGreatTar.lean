/- Part 18 of the proof of its last text: this session's own texts, shortened and joined by a program of its own (wip/pack.py). -/
import Derived.Test.YtaeckoinpllpnaaGreatTag
import Derived.Test.YtaeckoinpllpnaaGreatTaa
import Derived.Deep.QuietTactic
import Derived.BigQuiet
import Derived.Test.YtaeckoinpllpnaaGreatTai
import Derived.Test.YtaeckoinpllpnaaGreatTaq
import Derived.Test.YtaeckoinpllpnaaGreatTaf
set_option linter.unusedVariables false
set_option linter.unusedSimpArgs false
set_option maxHeartbeats 16000000
set_option maxRecDepth 100000
namespace Go.Proofs.YtaeckoinpllpnaaGreat
open Go.RowKit Go.Proofs.YtaeckoinpllpnaaGreatW.PrintWords Go.Proofs.YtaeckoinpllpnaaGreatW.PrintLast
theorem Zpc (x:Pln) (cs:List Value) (w:World) (hP:allK w x kPln cs) (hW:Zhg x) :
  Calls Tryz.prog 136 #[.agg cs.toArray] w fun e w'=>e=.returned (.int .i64 (Zcm (Zfy x) x.ways:Nat))∧Below w.heap.size w w':=by
 obtain ⟨A1,c1,A2,c2,A3,c3,A4,c4,rfl,l1,r1,l2,r2,l3,r3,l4,r4⟩:=Zcs hP
 have hm:=Zax r2
 obtain ⟨W,eW,hw0,N0⟩:=new1 w (.cells #[.int .i64 x.nodes,.int .i64 x.secret,.int .i64 x.fuel,.slice A1 x.cells.length c1,.slice A2 x.ways.length c2,.slice A3 x.slots.length c3,.slice A4 x.turns.length c4] 33)
 go_enter Tryz.func136,Tryz.ntmps136
 go_wp2
 refine wp_at eW ?_
 clear eW
 go_loopw [3] (fun i wr=>∃ k:Nat,k≤x.ways.length∧i=.int .i64 k∧Aside0 ((x.ways.take k).all (Zfy x)=true)∧Below W.heap.size W wr) (fun i _=>x.ways.length-(intOf i).toNat)
 case atStart=>exact ⟨0,Nat.zero_le _,rfl,⟨rfl⟩,brf_⟩
 case round =>
  obtain ⟨k,hk,rfl,hall,hb⟩:=hrel
  have hwr:=hw0.trans (hb.mono hw0.size)
  have Nr:=Zab N0 hb
  obtain ⟨p0,p1,p2,p3,p4,p5,p6⟩:=cellsP7 Nr
  by_cases hlt:k<x.ways.length
  ·obtain ⟨y,hy⟩:=Zar x.ways hlt
   obtain ⟨j0,j1,j2,j3⟩:=hW _ _ hy
   obtain ⟨za,hza⟩:=Zar x.cells (show y.frm.toNat<x.cells.length by omega)
   obtain ⟨zb,hzb⟩:=Zar x.cells (show y.dst.toNat<x.cells.length by omega)
   obtain ⟨gd,hgd⟩:∃ b,y.guarded=b:=⟨_,rfl⟩
   obtain ⟨ad,B1,d1,rfl,y0,y1,y2,y3,y4,m1,s1⟩:=Zhc (Zac r2 hwr) hy
   rw [hgd] at y3
   have hbw:=hb.alloc hb.size (.cells #[.int .i64 y.frm,.int .i64 y.dst,.int .i64 y.depth,.bool gd,.slice B1 y.guard.length d1] 112)
   have hww:=hwr.alloc hwr.size (.cells #[.int .i64 y.frm,.int .i64 y.dst,.int .i64 y.depth,.bool gd,.slice B1 y.guard.length d1] 112)
   have Nv:=Zas wr (.cells #[.int .i64 y.frm,.int .i64 y.dst,.int .i64 y.depth,.bool gd,.slice B1 y.guard.length d1] 112)
   have Nw:=Zal Nr (.cells #[.int .i64 y.frm,.int .i64 y.dst,.int .i64 y.depth,.bool gd,.slice B1 y.guard.length d1] 112)
   have hq:=Znp za.lvl za.marks zb.lvl zb.marks
   have hfl:Zfy x y=(gd||Zeo za.lvl za.marks zb.lvl zb.marks):=by rw [Zfy,hza,hzb,hgd]
   clear s1 hgd
   go_upto_region 5 with (fail)
   change Code.wp _ _ _ _ (wr.alloc (.cells #[.int .i64 y.frm,.int .i64 y.dst,.int .i64 y.depth,.bool gd,.slice B1 y.guard.length d1] 112))
   have hd:=Zat hww
   have hbd:=Zat hbw
   obtain ⟨bd,B2,d2,hA,z0,z1,z2,z3,z4,m2,s2⟩:=Zed (Zac r1 hww) hza
   obtain ⟨bd',B3,d3,hA',u0,u1,u2,u3,u4,m3,s3⟩:=Zed (Zac r1 hww) hzb
   subst hA
   obtain rfl:bd=bd':=Option.some.inj hA'
   clear s2 s3 hza hzb hA'
   obtain ⟨q0,q1,q2,q3,q4,q5,q6⟩:=cellsP7 Nw
   obtain ⟨v0,v1,v2,v3,v4⟩:=cellsP5 Nv
   generalize wr.alloc (.cells #[.int .i64 y.frm,.int .i64 y.dst,.int .i64 y.depth,.bool gd,.slice B1 y.guard.length d1] 112)=Wv at *
   cases gd
   ·cases hfv:Zeo za.lvl za.marks zb.lvl zb.marks
    ·rw [hfv] at hfl hq
     have hr:=Aside0.mk (Zec hall.out hy hfl)
     clear hfl hfv hall
     refine Zfm (n:=21) (S:=fun w'=>w'.cell? ⟨wr.heap.size,0,none⟩=some (.int .i64 y.frm)∧w'.cell? ⟨wr.heap.size,1,none⟩=some (.int .i64 y.dst)∧w'.cell? ⟨wr.heap.size,3,none⟩=some (.bool false)∧w'.cell? ⟨w.heap.size,3,none⟩=some (.slice (some bd) x.cells.length c1)∧w'.cell? ⟨(bd.add (y.frm.toNat*5)).block,(bd.add (y.frm.toNat*5)).off+1,none⟩=some (.int .i64 za.lvl)∧w'.cell? ⟨(bd.add (y.frm.toNat*5)).block,(bd.add (y.frm.toNat*5)).off+2,none⟩=some (.int .i64 za.marks)∧w'.cell? ⟨(bd.add (y.dst.toNat*5)).block,(bd.add (y.dst.toNat*5)).off+1,none⟩=some (.int .i64 zb.lvl)∧w'.cell? ⟨(bd.add (y.dst.toNat*5)).block,(bd.add (y.dst.toNat*5)).off+2,none⟩=some (.int .i64 zb.marks)) (ds:=[]) (upB 21 0) (by kernel_rfl) rfl rfl ⟨v0,v1,v3,q3,z1,z2,u1,u2⟩ (fun hHeld=>?_)
     generalize Wv.drew=Wd at *
     refine Zap (i:=0) (N:=some 17) (upB 21 1) rfl rfl (by kernel_rfl) (fun _ _ _ h=>h) (Or.inl ⟨by rfl,fun w'=>by go_simp;with_reducible rfl⟩) (by simp only [Act.put,pkA,pkB,pkC];rfl) ?_
     refine Zbz (i:=1) (N:=some 18) (upB 21 2) rfl rfl (by kernel_rfl) (fun _ _ _ h=>h) (Or.inl ⟨by rfl,by rintro w' ⟨s0,s1,s2,s3,s4,s5,s6,s7⟩;go_simp;with_reducible rfl⟩) hHeld (by simp only [Act.put,pkA,pkB,pkC];rfl) ?_
     refine Zap (i:=2) (N:=some 19) (upB 21 3) rfl rfl (by kernel_rfl) (fun _ _ _ h=>h) (Or.inl ⟨by rfl,fun w'=>by go_simp;with_reducible rfl⟩) (by simp only [Act.put,pkA,pkB,pkC];rfl) ?_
     refine Zap (i:=3) (N:=some 20) (upB 21 4) rfl rfl (by kernel_rfl) (fun _ _ _ h=>h) (Or.inl ⟨by rfl,fun w'=>by go_simp;with_reducible rfl⟩) (by simp only [Act.put,pkA,pkB,pkC];rfl) ?_
     refine Zap (i:=4) (N:=some 21) (upB 21 5) rfl rfl (by kernel_rfl) (fun _ _ _ h=>h) (Or.inl ⟨by rfl,fun w'=>by go_simp;with_reducible rfl⟩) (by simp only [Act.put,pkA,pkB,pkC];rfl) ?_
     refine Zbz (i:=5) (N:=some 22) (upB 21 6) rfl rfl (by kernel_rfl) (fun _ _ _ h=>h) (Or.inl ⟨by rfl,by rintro w' ⟨s0,s1,s2,s3,s4,s5,s6,s7⟩;go_simp;with_reducible rfl⟩) hHeld (by simp only [Act.put,pkA,pkB,pkC];rfl) ?_
     refine Zap (i:=6) (N:=some 23) (upB 21 7) rfl rfl (by kernel_rfl) (fun _ _ _ h=>h) (Or.inl ⟨by rfl,fun w'=>by go_simp;with_reducible rfl⟩) (by simp only [Act.put,pkA,pkB,pkC];rfl) ?_
     refine Zbz (i:=7) (N:=some 24) (upB 21 8) rfl rfl (by kernel_rfl) (fun _ _ _ h=>h) (Or.inl ⟨by rfl,by rintro w' ⟨s0,s1,s2,s3,s4,s5,s6,s7⟩;go_simp;with_reducible rfl⟩) hHeld (by simp only [Act.put,pkA,pkB,pkC];rfl) ?_
     refine Zap (i:=8) (N:=some 25) (upB 21 9) rfl rfl (by kernel_rfl) (fun _ _ _ h=>h) (Or.inl ⟨by rfl,fun w'=>by go_simp;with_reducible rfl⟩) (by simp only [Act.put,pkA,pkB,pkC];rfl) ?_
     refine Zap (i:=9) (N:=some 26) (upB 21 10) rfl rfl (by kernel_rfl) (fun _ _ _ h=>h) (Or.inl ⟨by rfl,fun w'=>by go_simp;with_reducible rfl⟩) (by simp only [Act.put,pkA,pkB,pkC];rfl) ?_
     refine Zbz (i:=10) (N:=some 27) (upB 21 11) rfl rfl (by kernel_rfl) (fun _ _ _ h=>h) (Or.inl ⟨by rfl,by rintro w' ⟨s0,s1,s2,s3,s4,s5,s6,s7⟩;go_simp;with_reducible rfl⟩) hHeld (by simp only [Act.put,pkA,pkB,pkC];rfl) ?_
     refine Zap (i:=11) (N:=some 28) (upB 21 12) rfl rfl (by kernel_rfl) (fun _ _ _ h=>h) (Or.inl ⟨by rfl,fun w'=>by go_simp;with_reducible rfl⟩) (by simp only [Act.put,pkA,pkB,pkC];rfl) ?_
     refine Zbz (i:=12) (N:=some 29) (upB 21 13) rfl rfl (by kernel_rfl) (fun _ _ _ h=>h) (Or.inl ⟨by rfl,by rintro w' ⟨s0,s1,s2,s3,s4,s5,s6,s7⟩;go_simp;with_reducible rfl⟩) hHeld (by simp only [Act.put,pkA,pkB,pkC];rfl) ?_
     refine Zap (i:=13) (N:=some 30) (upB 21 14) rfl rfl (by kernel_rfl) (fun _ _ _ h=>h) (Or.inl ⟨by rfl,fun w'=>by go_simp;with_reducible rfl⟩) (by simp only [Act.put,pkA,pkB,pkC];rfl) ?_
     refine Zbz (i:=14) (N:=some 31) (upB 21 15) rfl rfl (by kernel_rfl) (fun _ _ _ h=>h) (Or.inl ⟨by rfl,by rintro w' ⟨s0,s1,s2,s3,s4,s5,s6,s7⟩;go_simp;with_reducible rfl⟩) hHeld (by simp only [Act.put,pkA,pkB,pkC];rfl) ?_
     refine Zap (i:=15) (N:=some 32) (upB 21 16) rfl rfl (by kernel_rfl) (fun _ _ _ h=>h) (Or.inl ⟨by rfl,fun w'=>by go_simp;with_reducible rfl⟩) (by simp only [Act.put,pkA,pkB,pkC];rfl) ?_
     refine Zap (i:=16) (N:=some 33) (upB 21 17) rfl rfl (by kernel_rfl) (fun _ _ _ h=>h) (Or.inl ⟨by rfl,fun w'=>by go_simp;with_reducible rfl⟩) (by simp only [Act.put,pkA,pkB,pkC];rfl) ?_
     refine Zbz (i:=17) (N:=some 34) (upB 21 18) rfl rfl (by kernel_rfl) (fun _ _ _ h=>h) (Or.inl ⟨by rfl,by rintro w' ⟨s0,s1,s2,s3,s4,s5,s6,s7⟩;go_simp;with_reducible rfl⟩) hHeld (by simp only [Act.put,pkA,pkB,pkC];rfl) ?_
     refine one_ (i:=18) (N:=some 35) (upB 21 19) rfl rfl (by kernel_rfl) (by decide) (fun K hK=>?_)
     refine Zfw Tryz.func179 (by kernel_rfl) rfl #[.agg #[.int .i64 za.lvl,.int .i64 za.marks],.agg #[.int .i64 zb.lvl,.int .i64 zb.marks]] (by rfl) rfl rfl (by (try simp only [List.map_toArray,List.map_cons,List.map_nil]);first | done | rfl) ?_
     with_reducible refine (hq _).mono ?_
     rintro e w1 ⟨rfl,hb1⟩
     refine ⟨_,rfl, ?_⟩
     refine hK.out _ _ ⟨Zaa hb1 hHeld.1,Zaa hb1 hHeld.2.1,Zaa hb1 hHeld.2.2.1,Zaa hb1 hHeld.2.2.2.1,Zaa hb1 hHeld.2.2.2.2.1,Zaa hb1 hHeld.2.2.2.2.2.1,Zaa hb1 hHeld.2.2.2.2.2.2.1,Zaa hb1 hHeld.2.2.2.2.2.2.2⟩ (fun hHeld=>?_)
     clear hK K
     refine Zbb (a':=?_) ?_ ?_
     rotate_left
     ·show Act.put _ (some 35) _=_
      simp only [Act.put,pkA,pkB,pkC]
      rfl
     refine Zap (i:=19) (N:=some 36) (upB 21 20) rfl rfl (by kernel_rfl) (fun _ _ _ h=>h) (Or.inl ⟨by rfl,fun w'=>by go_simp;with_reducible rfl⟩) (by simp only [Act.put,pkA,pkB,pkC];rfl) ?_
     refine Zap (i:=20) (N:=some 37) (upB 21 21) rfl rfl (by kernel_rfl) (fun _ _ _ h=>h) (Or.inl ⟨by rfl,fun w'=>by go_simp;with_reducible rfl⟩) (by simp only [Act.put,pkA,pkB,pkC];rfl) ?_
     refine Zgw (by kernel_rfl) ?_
     go_wp2
     go_ret
     exact ⟨by rw [hr.out];rfl,hd.trans (hb1.mono hd.size)⟩
    ·rw [hfv] at hfl hq
     have hr:=Aside0.mk (Zbi hy hall.out hfl)
     clear hfl hfv hall
     refine Zfm (n:=21) (S:=fun w'=>w'.cell? ⟨wr.heap.size,0,none⟩=some (.int .i64 y.frm)∧w'.cell? ⟨wr.heap.size,1,none⟩=some (.int .i64 y.dst)∧w'.cell? ⟨wr.heap.size,3,none⟩=some (.bool false)∧w'.cell? ⟨w.heap.size,3,none⟩=some (.slice (some bd) x.cells.length c1)∧w'.cell? ⟨(bd.add (y.frm.toNat*5)).block,(bd.add (y.frm.toNat*5)).off+1,none⟩=some (.int .i64 za.lvl)∧w'.cell? ⟨(bd.add (y.frm.toNat*5)).block,(bd.add (y.frm.toNat*5)).off+2,none⟩=some (.int .i64 za.marks)∧w'.cell? ⟨(bd.add (y.dst.toNat*5)).block,(bd.add (y.dst.toNat*5)).off+1,none⟩=some (.int .i64 zb.lvl)∧w'.cell? ⟨(bd.add (y.dst.toNat*5)).block,(bd.add (y.dst.toNat*5)).off+2,none⟩=some (.int .i64 zb.marks)) (ds:=[]) (upB 21 0) (by kernel_rfl) rfl rfl ⟨v0,v1,v3,q3,z1,z2,u1,u2⟩ (fun hHeld=>?_)
     generalize Wv.drew=Wd at *
     refine Zap (i:=0) (N:=some 17) (upB 21 1) rfl rfl (by kernel_rfl) (fun _ _ _ h=>h) (Or.inl ⟨by rfl,fun w'=>by go_simp;with_reducible rfl⟩) (by simp only [Act.put,pkA,pkB,pkC];rfl) ?_
     refine Zbz (i:=1) (N:=some 18) (upB 21 2) rfl rfl (by kernel_rfl) (fun _ _ _ h=>h) (Or.inl ⟨by rfl,by rintro w' ⟨s0,s1,s2,s3,s4,s5,s6,s7⟩;go_simp;with_reducible rfl⟩) hHeld (by simp only [Act.put,pkA,pkB,pkC];rfl) ?_
     refine Zap (i:=2) (N:=some 19) (upB 21 3) rfl rfl (by kernel_rfl) (fun _ _ _ h=>h) (Or.inl ⟨by rfl,fun w'=>by go_simp;with_reducible rfl⟩) (by simp only [Act.put,pkA,pkB,pkC];rfl) ?_
     refine Zap (i:=3) (N:=some 20) (upB 21 4) rfl rfl (by kernel_rfl) (fun _ _ _ h=>h) (Or.inl ⟨by rfl,fun w'=>by go_simp;with_reducible rfl⟩) (by simp only [Act.put,pkA,pkB,pkC];rfl) ?_
     refine Zap (i:=4) (N:=some 21) (upB 21 5) rfl rfl (by kernel_rfl) (fun _ _ _ h=>h) (Or.inl ⟨by rfl,fun w'=>by go_simp;with_reducible rfl⟩) (by simp only [Act.put,pkA,pkB,pkC];rfl) ?_
     refine Zbz (i:=5) (N:=some 22) (upB 21 6) rfl rfl (by kernel_rfl) (fun _ _ _ h=>h) (Or.inl ⟨by rfl,by rintro w' ⟨s0,s1,s2,s3,s4,s5,s6,s7⟩;go_simp;with_reducible rfl⟩) hHeld (by simp only [Act.put,pkA,pkB,pkC];rfl) ?_
     refine Zap (i:=6) (N:=some 23) (upB 21 7) rfl rfl (by kernel_rfl) (fun _ _ _ h=>h) (Or.inl ⟨by rfl,fun w'=>by go_simp;with_reducible rfl⟩) (by simp only [Act.put,pkA,pkB,pkC];rfl) ?_
     refine Zbz (i:=7) (N:=some 24) (upB 21 8) rfl rfl (by kernel_rfl) (fun _ _ _ h=>h) (Or.inl ⟨by rfl,by rintro w' ⟨s0,s1,s2,s3,s4,s5,s6,s7⟩;go_simp;with_reducible rfl⟩) hHeld (by simp only [Act.put,pkA,pkB,pkC];rfl) ?_
     refine Zap (i:=8) (N:=some 25) (upB 21 9) rfl rfl (by kernel_rfl) (fun _ _ _ h=>h) (Or.inl ⟨by rfl,fun w'=>by go_simp;with_reducible rfl⟩) (by simp only [Act.put,pkA,pkB,pkC];rfl) ?_
     refine Zap (i:=9) (N:=some 26) (upB 21 10) rfl rfl (by kernel_rfl) (fun _ _ _ h=>h) (Or.inl ⟨by rfl,fun w'=>by go_simp;with_reducible rfl⟩) (by simp only [Act.put,pkA,pkB,pkC];rfl) ?_
     refine Zbz (i:=10) (N:=some 27) (upB 21 11) rfl rfl (by kernel_rfl) (fun _ _ _ h=>h) (Or.inl ⟨by rfl,by rintro w' ⟨s0,s1,s2,s3,s4,s5,s6,s7⟩;go_simp;with_reducible rfl⟩) hHeld (by simp only [Act.put,pkA,pkB,pkC];rfl) ?_
     refine Zap (i:=11) (N:=some 28) (upB 21 12) rfl rfl (by kernel_rfl) (fun _ _ _ h=>h) (Or.inl ⟨by rfl,fun w'=>by go_simp;with_reducible rfl⟩) (by simp only [Act.put,pkA,pkB,pkC];rfl) ?_
     refine Zbz (i:=12) (N:=some 29) (upB 21 13) rfl rfl (by kernel_rfl) (fun _ _ _ h=>h) (Or.inl ⟨by rfl,by rintro w' ⟨s0,s1,s2,s3,s4,s5,s6,s7⟩;go_simp;with_reducible rfl⟩) hHeld (by simp only [Act.put,pkA,pkB,pkC];rfl) ?_
     refine Zap (i:=13) (N:=some 30) (upB 21 14) rfl rfl (by kernel_rfl) (fun _ _ _ h=>h) (Or.inl ⟨by rfl,fun w'=>by go_simp;with_reducible rfl⟩) (by simp only [Act.put,pkA,pkB,pkC];rfl) ?_
     refine Zbz (i:=14) (N:=some 31) (upB 21 15) rfl rfl (by kernel_rfl) (fun _ _ _ h=>h) (Or.inl ⟨by rfl,by rintro w' ⟨s0,s1,s2,s3,s4,s5,s6,s7⟩;go_simp;with_reducible rfl⟩) hHeld (by simp only [Act.put,pkA,pkB,pkC];rfl) ?_
     refine Zap (i:=15) (N:=some 32) (upB 21 16) rfl rfl (by kernel_rfl) (fun _ _ _ h=>h) (Or.inl ⟨by rfl,fun w'=>by go_simp;with_reducible rfl⟩) (by simp only [Act.put,pkA,pkB,pkC];rfl) ?_
     refine Zap (i:=16) (N:=some 33) (upB 21 17) rfl rfl (by kernel_rfl) (fun _ _ _ h=>h) (Or.inl ⟨by rfl,fun w'=>by go_simp;with_reducible rfl⟩) (by simp only [Act.put,pkA,pkB,pkC];rfl) ?_
     refine Zbz (i:=17) (N:=some 34) (upB 21 18) rfl rfl (by kernel_rfl) (fun _ _ _ h=>h) (Or.inl ⟨by rfl,by rintro w' ⟨s0,s1,s2,s3,s4,s5,s6,s7⟩;go_simp;with_reducible rfl⟩) hHeld (by simp only [Act.put,pkA,pkB,pkC];rfl) ?_
     refine one_ (i:=18) (N:=some 35) (upB 21 19) rfl rfl (by kernel_rfl) (by decide) (fun K hK=>?_)
     refine Zfw Tryz.func179 (by kernel_rfl) rfl #[.agg #[.int .i64 za.lvl,.int .i64 za.marks],.agg #[.int .i64 zb.lvl,.int .i64 zb.marks]] (by rfl) rfl rfl (by (try simp only [List.map_toArray,List.map_cons,List.map_nil]);first | done | rfl) ?_
     with_reducible refine (hq _).mono ?_
     rintro e w1 ⟨rfl,hb1⟩
     refine ⟨_,rfl, ?_⟩
     refine hK.out _ _ ⟨Zaa hb1 hHeld.1,Zaa hb1 hHeld.2.1,Zaa hb1 hHeld.2.2.1,Zaa hb1 hHeld.2.2.2.1,Zaa hb1 hHeld.2.2.2.2.1,Zaa hb1 hHeld.2.2.2.2.2.1,Zaa hb1 hHeld.2.2.2.2.2.2.1,Zaa hb1 hHeld.2.2.2.2.2.2.2⟩ (fun hHeld=>?_)
     clear hK K
     refine Zbb (a':=?_) ?_ ?_
     rotate_left
     ·show Act.put _ (some 35) _=_
      simp only [Act.put,pkA,pkB,pkC]
      rfl
     refine Zap (i:=19) (N:=some 36) (upB 21 20) rfl rfl (by kernel_rfl) (fun _ _ _ h=>h) (Or.inl ⟨by rfl,fun w'=>by go_simp;with_reducible rfl⟩) (by simp only [Act.put,pkA,pkB,pkC];rfl) ?_
     refine Zap (i:=20) (N:=some 37) (upB 21 21) rfl rfl (by kernel_rfl) (fun _ _ _ h=>h) (Or.inl ⟨by rfl,fun w'=>by go_simp;with_reducible rfl⟩) (by simp only [Act.put,pkA,pkB,pkC];rfl) ?_
     refine Zgw (by kernel_rfl) ?_
     go_wp2
     refine ⟨⟨k+1,by omega,rfl,hr,hbd.trans (hb1.mono hbd.size)⟩, ?_⟩
     simp [intOf]
     omega
   ·have hr:=Aside0.mk (Zbi hy hall.out (hfl.trans (Bool.true_or _)))
    clear hfl hall
    go_quiet (fail)
    rename_i nq
    go_wp2
    refine ⟨⟨k+1,by omega,rfl,hr,Zay hbw nq⟩, ?_⟩
    simp [intOf]
    omega
  ·have e:k=x.ways.length:=by omega
   have hr:=hall.out
   rw [e,List.take_length] at hr
   have hr:=Aside0.mk (Zcc hr)
   clear hall
   go_wp2
   go_ret
   exact ⟨by rw [hr.out];rfl,hwr⟩
theorem Zpd (x:Pln) (cs:List Value) (hn:1≤x.nodes∧x.nodes≤4) :
  ∃ fb:Nat,(∀ w:World,allK w x kPln cs→Calls Tryz.prog 140 #[.agg cs.toArray] w fun e w'=>e=.returned (.int .i64 fb)∧Below w.heap.size w w')∧(plan13 x=true→fb=x.nodes.toNat)∧(plan13 x=false→(fb:Int)<x.nodes):=by
 by_cases ht:(x.turns.length:Int)=x.nodes
 ·refine ⟨Zcm (fun k:Nat=>Zfn x k) (List.range x.nodes.toNat),fun w hP=>Zoz x cs w hP hn ht,fun h=>?_,fun h=>?_⟩
  ·rw [plan13,decide_eq_true ht,Bool.true_and] at h
   rw [Zcc h,List.length_range]
  ·rw [plan13,decide_eq_true ht,Bool.true_and] at h
   have:=Zdn h
   rw [List.length_range] at this
   omega
 ·refine ⟨0,fun w hP=>Zpa x cs w hP ht,fun h=>?_,fun h=>by omega⟩
  rw [plan13,decide_eq_false ht] at h
  cases h
theorem Znx (x:Pln) (cs:List Value) (w:World) (hP:allK w x kPln cs) :
  Calls Tryz.prog 100 #[.agg cs.toArray] w fun e w'=>(∃ c pl:Int,e=.returned (.tuple #[.int .i64 c,.int .i64 pl])∧(c==0)=Zcz x)∧Below w.heap.size w w':=by
 obtain ⟨A1,c1,A2,c2,A3,c3,A4,c4,rfl,l1,r1,l2,r2,l3,r3,l4,r4⟩:=Zcs hP
 have hm1:=Zax r1
 have hm2:=Zax r2
 have hm3:=Zax r3
 have hm4:=Zax r4
 obtain ⟨W,eW,HB,N⟩:=new1 w (.cells #[.int .i64 x.nodes,.int .i64 x.secret,.int .i64 x.fuel,.slice A1 x.cells.length c1,.slice A2 x.ways.length c2,.slice A3 x.slots.length c3,.slice A4 x.turns.length c4] 33)
 go_enter Tryz.func100,Tryz.ntmps100
 go_upto_region 1 with (fail)
 refine wp_at eW ?_
 clear eW
 have q:=fun w=>Zaz x.nodes 1 4 w
 cases h1:inB x.nodes 1 4
 case false =>
  rw [h1] at q
  have h1:=Aside0.mk h1
  obtain ⟨p0,p1,p2,p3,p4,p5,p6⟩:=cellsP7 N
  go_wp2_with (go_at_call 94;with_reducible refine (q _).mono ?_;rintro e w1 ⟨rfl,hw9⟩;rw [hw9];clear hw9)
  go_ret2
  exact ⟨⟨_,_,rfl,by rw [Zcz,h1.out];rfl⟩,HB⟩
 rw [h1] at q
 have hn:=Zeg h1
 have h1:=Aside0.mk h1
 obtain ⟨p0,p1,p2,p3,p4,p5,p6⟩:=cellsP7 N
 go_upto_region 3 with (go_at_call 94;with_reducible refine (q _).mono ?_;rintro e w1 ⟨rfl,hw9⟩;rw [hw9];clear hw9)
 clear q p0 p1 p2 p3 p4 p5 p6
 have q:=fun w=>Zaz x.secret 0 4294967295 w
 cases h2:inB x.secret 0 4294967295
 case false =>
  rw [h2] at q
  have h2:=Aside0.mk h2
  obtain ⟨p0,p1,p2,p3,p4,p5,p6⟩:=cellsP7 N
  go_wp2_with (go_at_call 94;with_reducible refine (q _).mono ?_;rintro e w1 ⟨rfl,hw9⟩;rw [hw9];clear hw9)
  go_ret2
  exact ⟨⟨_,_,rfl,by rw [Zcz,h1.out,h2.out];rfl⟩,HB⟩
 rw [h2] at q
 have h2:=Aside0.mk h2
 obtain ⟨p0,p1,p2,p3,p4,p5,p6⟩:=cellsP7 N
 go_upto_region 5 with (go_at_call 94;with_reducible refine (q _).mono ?_;rintro e w1 ⟨rfl,hw9⟩;rw [hw9];clear hw9)
 clear q p0 p1 p2 p3 p4 p5 p6
 have q:=fun w=>Zaz x.fuel 1 16 w
 cases h3:inB x.fuel 1 16
 case false =>
  rw [h3] at q
  have h3:=Aside0.mk h3
  obtain ⟨p0,p1,p2,p3,p4,p5,p6⟩:=cellsP7 N
  go_wp2_with (go_at_call 94;with_reducible refine (q _).mono ?_;rintro e w1 ⟨rfl,hw9⟩;rw [hw9];clear hw9)
  go_ret2
  exact ⟨⟨_,_,rfl,by rw [Zcz,h1.out,h2.out,h3.out];rfl⟩,HB⟩
 rw [h3] at q
 have h3:=Aside0.mk h3
 obtain ⟨p0,p1,p2,p3,p4,p5,p6⟩:=cellsP7 N
 go_upto_region 7 with (go_at_call 94;with_reducible refine (q _).mono ?_;rintro e w1 ⟨rfl,hw9⟩;rw [hw9];clear hw9)
 clear q p0 p1 p2 p3 p4 p5 p6
 have q:=fun w=>Zaz (x.cells.length:Int) 1 8 w
 cases h4:inB x.cells.length 1 8
 case false =>
  rw [h4] at q
  have h4:=Aside0.mk h4
  obtain ⟨p0,p1,p2,p3,p4,p5,p6⟩:=cellsP7 N
  go_wp2_with (go_at_call 94;with_reducible refine (q _).mono ?_;rintro e w1 ⟨rfl,hw9⟩;rw [hw9];clear hw9)
  go_ret2
  exact ⟨⟨_,_,rfl,by rw [Zcz,h1.out,h2.out,h3.out,h4.out];rfl⟩,HB⟩
 rw [h4] at q
 have h4:=Aside0.mk h4
 obtain ⟨p0,p1,p2,p3,p4,p5,p6⟩:=cellsP7 N
 go_upto_region 9 with (go_at_call 94;with_reducible refine (q _).mono ?_;rintro e w1 ⟨rfl,hw9⟩;rw [hw9];clear hw9)
 clear q p0 p1 p2 p3 p4 p5 p6
 have q:=fun w1 (h:Below w.heap.size w w1)=>Zox x _ w1 (Zai h hP) hn
 cases h5:x.cells.all (Zfc x.nodes)
 case false =>
  have hlt:=Zdn h5
  generalize Zcm (Zfc x.nodes) x.cells=fb at *
  try rw [List.length_range] at hlt
  have d9:decide (fb<x.cells.length)=true:=decide_eq_true (by omega)
  clear hlt
  have h5:=Aside0.mk h5
  obtain ⟨p0,p1,p2,p3,p4,p5,p6⟩:=cellsP7 N
  refine Zan (by kernel_rfl) (by kernel_rfl) ?_
  have hx:=Zbg W
  repeat (go_big_quiet_step ((go_at_call 134;with_reducible exact Calls.ext_of_below (q _ (HB.trans ((Zam _ _).mono HB.size))))))
  refine wpQuiet_nil ?_
  rintro _ ⟨wt,rfl⟩
  have hbx:=Zam W wt
  clear hx p0 p1 p2 p3 p4 p5 p6
  replace HB:=HB.trans (hbx.mono HB.size);replace N:=Zab N hbx
  clear hbx
  generalize ext W wt=W at *
  obtain ⟨p0,p1,p2,p3,p4,p5,p6⟩:=cellsP7 N
  go_wp2_with (go_at_call 134;with_reducible refine (q _ HB).mono ?_;rintro e w1 ⟨rfl,hb1⟩)
  go_ret2
  exact ⟨⟨_,_,rfl,by rw [Zcz,h1.out,h2.out,h3.out,h4.out,h5.out];rfl⟩,HB.trans (hb1.mono HB.size)⟩
 rw [Zcc h5] at q
 have hA0:=Zxp h5
 have h5_:=Aside0.mk h5
 have h5:=Aside0.mk h5
 obtain ⟨p0,p1,p2,p3,p4,p5,p6⟩:=cellsP7 N
 refine Zan (by kernel_rfl) (by kernel_rfl) ?_
 have hx:=Zbg W
 repeat (go_big_quiet_step ((go_at_call 134;with_reducible exact Calls.ext_of_below (q _ (HB.trans ((Zam _ _).mono HB.size))))))
 refine wpQuiet_nil ?_
 rintro _ ⟨wt,rfl⟩
 have hbx:=Zam W wt
 clear hx p0 p1 p2 p3 p4 p5 p6
 replace HB:=HB.trans (hbx.mono HB.size);replace N:=Zab N hbx
 clear hbx
 generalize ext W wt=W at *
 clear q
 go_upto_region 11 with (fail)
 cases h6:decide (x.ways.length≤10)
 case false =>
  have d9:decide ((10:Int)<(x.ways.length:Int))=true:=decide_eq_true (by have:=of_decide_eq_false h6;omega)
  have h6:=Aside0.mk h6
  obtain ⟨p0,p1,p2,p3,p4,p5,p6⟩:=cellsP7 N
  go_wp2
  go_ret2
  exact ⟨⟨_,_,rfl,by rw [Zcz,h1.out,h2.out,h3.out,h4.out,h5.out,h6.out];rfl⟩,HB⟩
 have d9:decide ((10:Int)<(x.ways.length:Int))=false:=decide_eq_false (by have:=of_decide_eq_true h6;omega)
 have h6:=Aside0.mk h6
 obtain ⟨p0,p1,p2,p3,p4,p5,p6⟩:=cellsP7 N
 go_upto_region 13 with (fail)
 clear d9 p0 p1 p2 p3 p4 p5 p6
 have q:=fun w1 (h:Below w.heap.size w w1)=>Zqx x _ w1 (Zai h hP)
 cases h7:x.ways.all (wyOk x.cells.length)
 case false =>
  have hlt:=Zdn h7
  generalize Zcm (wyOk x.cells.length) x.ways=fb at *
  try rw [List.length_range] at hlt
  have d9:decide (fb<x.ways.length)=true:=decide_eq_true (by omega)
  clear hlt
  have h7:=Aside0.mk h7
  obtain ⟨p0,p1,p2,p3,p4,p5,p6⟩:=cellsP7 N
  refine Zan (by kernel_rfl) (by kernel_rfl) ?_
  have hx:=Zbg W
  repeat (go_big_quiet_step ((go_at_call 135;with_reducible exact Calls.ext_of_below (q _ (HB.trans ((Zam _ _).mono HB.size))))))
  refine wpQuiet_nil ?_
  rintro _ ⟨wt,rfl⟩
  have hbx:=Zam W wt
  clear hx p0 p1 p2 p3 p4 p5 p6
  replace HB:=HB.trans (hbx.mono HB.size);replace N:=Zab N hbx
  clear hbx
  generalize ext W wt=W at *
  obtain ⟨p0,p1,p2,p3,p4,p5,p6⟩:=cellsP7 N
  go_wp2_with (go_at_call 135;with_reducible refine (q _ HB).mono ?_;rintro e w1 ⟨rfl,hb1⟩)
  go_ret2
  exact ⟨⟨_,_,rfl,by rw [Zcz,h1.out,h2.out,h3.out,h4.out,h5.out,h6.out,h7.out];rfl⟩,HB.trans (hb1.mono HB.size)⟩
 rw [Zcc h7] at q
 have hW:=Zja h7
 have h7:=Aside0.mk h7
 obtain ⟨p0,p1,p2,p3,p4,p5,p6⟩:=cellsP7 N
 refine Zan (by kernel_rfl) (by kernel_rfl) ?_
 have hx:=Zbg W
 repeat (go_big_quiet_step ((go_at_call 135;with_reducible exact Calls.ext_of_below (q _ (HB.trans ((Zam _ _).mono HB.size))))))
 refine wpQuiet_nil ?_
 rintro _ ⟨wt,rfl⟩
 have hbx:=Zam W wt
 clear hx p0 p1 p2 p3 p4 p5 p6
 replace HB:=HB.trans (hbx.mono HB.size);replace N:=Zab N hbx
 clear hbx
 generalize ext W wt=W at *
 clear q
 go_upto_region 15 with (fail)
 have q:=fun w1 (h:Below w.heap.size w w1)=>Zpc x _ w1 (Zai h hP) hW
 cases h8:x.ways.all (Zfy x)
 case false =>
  have hlt:=Zdn h8
  generalize Zcm (Zfy x) x.ways=fb at *
  try rw [List.length_range] at hlt
  have d9:decide (fb<x.ways.length)=true:=decide_eq_true (by omega)
  clear hlt
  have h8:=Aside0.mk h8
  obtain ⟨p0,p1,p2,p3,p4,p5,p6⟩:=cellsP7 N
  refine Zan (by kernel_rfl) (by kernel_rfl) ?_
  have hx:=Zbg W
  repeat (go_big_quiet_step ((go_at_call 136;with_reducible exact Calls.ext_of_below (q _ (HB.trans ((Zam _ _).mono HB.size))))))
  refine wpQuiet_nil ?_
  rintro _ ⟨wt,rfl⟩
  have hbx:=Zam W wt
  clear hx p0 p1 p2 p3 p4 p5 p6
  replace HB:=HB.trans (hbx.mono HB.size);replace N:=Zab N hbx
  clear hbx
  generalize ext W wt=W at *
  obtain ⟨p0,p1,p2,p3,p4,p5,p6⟩:=cellsP7 N
  go_wp2_with (go_at_call 136;with_reducible refine (q _ HB).mono ?_;rintro e w1 ⟨rfl,hb1⟩)
  go_ret2
  exact ⟨⟨_,_,rfl,by rw [Zcz,h1.out,h2.out,h3.out,h4.out,h5.out,h6.out,h7.out,h8.out];rfl⟩,HB.trans (hb1.mono HB.size)⟩
 rw [Zcc h8] at q
 have h8:=Aside0.mk h8
 obtain ⟨p0,p1,p2,p3,p4,p5,p6⟩:=cellsP7 N
 refine Zan (by kernel_rfl) (by kernel_rfl) ?_
 have hx:=Zbg W
 repeat (go_big_quiet_step ((go_at_call 136;with_reducible exact Calls.ext_of_below (q _ (HB.trans ((Zam _ _).mono HB.size))))))
 refine wpQuiet_nil ?_
 rintro _ ⟨wt,rfl⟩
 have hbx:=Zam W wt
 clear hx p0 p1 p2 p3 p4 p5 p6
 replace HB:=HB.trans (hbx.mono HB.size);replace N:=Zab N hbx
 clear hbx
 generalize ext W wt=W at *
 clear q
 go_upto_region 17 with (fail)
 have q:=fun w=>Zaz (x.slots.length:Int) 1 12 w
 cases h9:inB x.slots.length 1 12
 case false =>
  rw [h9] at q
  have h9:=Aside0.mk h9
  obtain ⟨p0,p1,p2,p3,p4,p5,p6⟩:=cellsP7 N
  go_wp2_with (go_at_call 94;with_reducible refine (q _).mono ?_;rintro e w1 ⟨rfl,hw9⟩;rw [hw9];clear hw9)
  go_ret2
  exact ⟨⟨_,_,rfl,by rw [Zcz,h1.out,h2.out,h3.out,h4.out,h5.out,h6.out,h7.out,h8.out,h9.out];rfl⟩,HB⟩
 rw [h9] at q
 have h9:=Aside0.mk h9
 obtain ⟨p0,p1,p2,p3,p4,p5,p6⟩:=cellsP7 N
 go_upto_region 19 with (go_at_call 94;with_reducible refine (q _).mono ?_;rintro e w1 ⟨rfl,hw9⟩;rw [hw9];clear hw9)
 clear q p0 p1 p2 p3 p4 p5 p6
 have q:=fun w1 (h:Below w.heap.size w w1)=>Zoy x _ w1 (Zai h hP) hn hW
 cases h10:x.slots.all (Zfe x)
 case false =>
  have hlt:=Zdn h10
  generalize Zcm (Zfe x) x.slots=fb at *
  try rw [List.length_range] at hlt
  have d9:decide (fb<x.slots.length)=true:=decide_eq_true (by omega)
  clear hlt
  have h10:=Aside0.mk h10
  obtain ⟨p0,p1,p2,p3,p4,p5,p6⟩:=cellsP7 N
  refine Zan (by kernel_rfl) (by kernel_rfl) ?_
  have hx:=Zbg W
  repeat (go_big_quiet_step ((go_at_call 137;with_reducible exact Calls.ext_of_below (q _ (HB.trans ((Zam _ _).mono HB.size))))))
  refine wpQuiet_nil ?_
  rintro _ ⟨wt,rfl⟩
  have hbx:=Zam W wt
  clear hx p0 p1 p2 p3 p4 p5 p6
  replace HB:=HB.trans (hbx.mono HB.size);replace N:=Zab N hbx
  clear hbx
  generalize ext W wt=W at *
  obtain ⟨p0,p1,p2,p3,p4,p5,p6⟩:=cellsP7 N
  go_wp2_with (go_at_call 137;with_reducible refine (q _ HB).mono ?_;rintro e w1 ⟨rfl,hb1⟩)
  go_ret2
  exact ⟨⟨_,_,rfl,by rw [Zcz,h1.out,h2.out,h3.out,h4.out,h5.out,h6.out,h7.out,h8.out,h9.out,h10.out];rfl⟩,HB.trans (hb1.mono HB.size)⟩
 rw [Zcc h10] at q
 have h10:=Aside0.mk h10
 obtain ⟨p0,p1,p2,p3,p4,p5,p6⟩:=cellsP7 N
 refine Zan (by kernel_rfl) (by kernel_rfl) ?_
 have hx:=Zbg W
 repeat (go_big_quiet_step ((go_at_call 137;with_reducible exact Calls.ext_of_below (q _ (HB.trans ((Zam _ _).mono HB.size))))))
 refine wpQuiet_nil ?_
 rintro _ ⟨wt,rfl⟩
 have hbx:=Zam W wt
 clear hx p0 p1 p2 p3 p4 p5 p6
 replace HB:=HB.trans (hbx.mono HB.size);replace N:=Zab N hbx
 clear hbx
 generalize ext W wt=W at *
 clear q
 go_upto_region 21 with (fail)
 have q:=fun w1 (h:Below w.heap.size w w1)=>Zqy x _ w1 (Zai h hP) hn
 cases h11:(List.range x.nodes.toNat).all (fun k:Nat=>Zci x.slots (k:Int) (-1))
 case false =>
  have hlt:=Zdn h11
  generalize Zcm (fun k:Nat=>Zci x.slots (k:Int) (-1)) (List.range x.nodes.toNat)=fb at *
  try rw [List.length_range] at hlt
  have d9:decide ((fb:Int)<x.nodes)=true:=decide_eq_true (by omega)
  clear hlt
  have h11:=Aside0.mk h11
  obtain ⟨p0,p1,p2,p3,p4,p5,p6⟩:=cellsP7 N
  refine Zan (by kernel_rfl) (by kernel_rfl) ?_
  have hx:=Zbg W
  repeat (go_big_quiet_step ((go_at_call 138;with_reducible exact Calls.ext_of_below (q _ (HB.trans ((Zam _ _).mono HB.size))))))
  refine wpQuiet_nil ?_
  rintro _ ⟨wt,rfl⟩
  have hbx:=Zam W wt
  clear hx p0 p1 p2 p3 p4 p5 p6
  replace HB:=HB.trans (hbx.mono HB.size);replace N:=Zab N hbx
  clear hbx
  generalize ext W wt=W at *
  obtain ⟨p0,p1,p2,p3,p4,p5,p6⟩:=cellsP7 N
  go_wp2_with (go_at_call 138;with_reducible refine (q _ HB).mono ?_;rintro e w1 ⟨rfl,hb1⟩)
  go_ret2
  exact ⟨⟨_,_,rfl,by rw [Zcz,h1.out,h2.out,h3.out,h4.out,h5.out,h6.out,h7.out,h8.out,h9.out,h10.out,h11.out];rfl⟩,HB.trans (hb1.mono HB.size)⟩
 rw [Zcc h11,List.length_range] at q
 have e9:((x.nodes.toNat:Nat):Int)=x.nodes:=by omega
 rw [e9] at q
 clear e9
 have h11:=Aside0.mk h11
 obtain ⟨p0,p1,p2,p3,p4,p5,p6⟩:=cellsP7 N
 refine Zan (by kernel_rfl) (by kernel_rfl) ?_
 have hx:=Zbg W
 repeat (go_big_quiet_step ((go_at_call 138;with_reducible exact Calls.ext_of_below (q _ (HB.trans ((Zam _ _).mono HB.size))))))
 refine wpQuiet_nil ?_
 rintro _ ⟨wt,rfl⟩
 have hbx:=Zam W wt
 clear hx p0 p1 p2 p3 p4 p5 p6
 replace HB:=HB.trans (hbx.mono HB.size);replace N:=Zab N hbx
 clear hbx
 generalize ext W wt=W at *
 clear q
 go_upto_region 23 with (fail)
 have q:=fun w1 (h:Below w.heap.size w w1)=>Zqz x _ w1 (Zai h hP)
 cases h12:(List.range x.ways.length).all (fun k:Nat=>Zci x.slots (-1) (k:Int))
 case false =>
  have hlt:=Zdn h12
  generalize Zcm (fun k:Nat=>Zci x.slots (-1) (k:Int)) (List.range x.ways.length)=fb at *
  try rw [List.length_range] at hlt
  have d9:decide (fb<x.ways.length)=true:=decide_eq_true (by omega)
  clear hlt
  have h12:=Aside0.mk h12
  obtain ⟨p0,p1,p2,p3,p4,p5,p6⟩:=cellsP7 N
  refine Zan (by kernel_rfl) (by kernel_rfl) ?_
  have hx:=Zbg W
  repeat (go_big_quiet_step ((go_at_call 139;with_reducible exact Calls.ext_of_below (q _ (HB.trans ((Zam _ _).mono HB.size))))))
  refine wpQuiet_nil ?_
  rintro _ ⟨wt,rfl⟩
  have hbx:=Zam W wt
  clear hx p0 p1 p2 p3 p4 p5 p6
  replace HB:=HB.trans (hbx.mono HB.size);replace N:=Zab N hbx
  clear hbx
  generalize ext W wt=W at *
  obtain ⟨p0,p1,p2,p3,p4,p5,p6⟩:=cellsP7 N
  go_wp2_with (go_at_call 139;with_reducible refine (q _ HB).mono ?_;rintro e w1 ⟨rfl,hb1⟩)
  go_ret2
  exact ⟨⟨_,_,rfl,by rw [Zcz,h1.out,h2.out,h3.out,h4.out,h5.out,h6.out,h7.out,h8.out,h9.out,h10.out,h11.out,h12.out];rfl⟩,HB.trans (hb1.mono HB.size)⟩
 rw [Zcc h12,List.length_range] at q
 have h12:=Aside0.mk h12
 obtain ⟨p0,p1,p2,p3,p4,p5,p6⟩:=cellsP7 N
 refine Zan (by kernel_rfl) (by kernel_rfl) ?_
 have hx:=Zbg W
 repeat (go_big_quiet_step ((go_at_call 139;with_reducible exact Calls.ext_of_below (q _ (HB.trans ((Zam _ _).mono HB.size))))))
 refine wpQuiet_nil ?_
 rintro _ ⟨wt,rfl⟩
 have hbx:=Zam W wt
 clear hx p0 p1 p2 p3 p4 p5 p6
 replace HB:=HB.trans (hbx.mono HB.size);replace N:=Zab N hbx
 clear hbx
 generalize ext W wt=W at *
 clear q
 go_upto_region 25 with (fail)
 obtain ⟨fb,hfb,hft,hff⟩:=Zpd x [.int .i64 x.nodes,.int .i64 x.secret,.int .i64 x.fuel,.slice A1 x.cells.length c1,.slice A2 x.ways.length c2,.slice A3 x.slots.length c3,.slice A4 x.turns.length c4] hn
 have q:=fun w1 (h:Below w.heap.size w w1)=>hfb w1 (Zai h hP)
 cases h13:plan13 x
 case false =>
  have hlt:=hff h13
  clear hft hff hfb
  have d9:decide ((fb:Int)<x.nodes)=true:=decide_eq_true (by omega)
  clear hlt
  have h13:=Aside0.mk h13
  obtain ⟨p0,p1,p2,p3,p4,p5,p6⟩:=cellsP7 N
  refine Zan (by kernel_rfl) (by kernel_rfl) ?_
  have hx:=Zbg W
  repeat (go_big_quiet_step ((go_at_call 140;with_reducible exact Calls.ext_of_below (q _ (HB.trans ((Zam _ _).mono HB.size))))))
  refine wpQuiet_nil ?_
  rintro _ ⟨wt,rfl⟩
  have hbx:=Zam W wt
  clear hx p0 p1 p2 p3 p4 p5 p6
  replace HB:=HB.trans (hbx.mono HB.size);replace N:=Zab N hbx
  clear hbx
  generalize ext W wt=W at *
  obtain ⟨p0,p1,p2,p3,p4,p5,p6⟩:=cellsP7 N
  go_wp2_with (go_at_call 140;with_reducible refine (q _ HB).mono ?_;rintro e w1 ⟨rfl,hb1⟩)
  go_ret2
  exact ⟨⟨_,_,rfl,by rw [Zcz,h1.out,h2.out,h3.out,h4.out,h5.out,h6.out,h7.out,h8.out,h9.out,h10.out,h11.out,h12.out,h13.out];rfl⟩,HB.trans (hb1.mono HB.size)⟩
 have hT:=Zxq h13 h5_.out
 have e8:=hft h13
 rw [e8] at q
 have e9:((x.nodes.toNat:Nat):Int)=x.nodes:=by omega
 rw [e9] at q
 clear e9 e8 hft hff hfb
 have h13:=Aside0.mk h13
 obtain ⟨p0,p1,p2,p3,p4,p5,p6⟩:=cellsP7 N
 refine Zan (by kernel_rfl) (by kernel_rfl) ?_
 have hx:=Zbg W
 repeat (go_big_quiet_step ((go_at_call 140;with_reducible exact Calls.ext_of_below (q _ (HB.trans ((Zam _ _).mono HB.size))))))
 refine wpQuiet_nil ?_
 rintro _ ⟨wt,rfl⟩
 have hbx:=Zam W wt
 clear hx p0 p1 p2 p3 p4 p5 p6
 replace HB:=HB.trans (hbx.mono HB.size);replace N:=Zab N hbx
 clear hbx
 generalize ext W wt=W at *
 clear q
 go_upto_region 27 with (fail)
 have q:=fun w1 (h:Below w.heap.size w w1)=>Zrd x _ w1 (Zai h hP) hT
 cases h14:(List.range x.cells.length).all (fun k:Nat=>Zgg x k)
 case false =>
  have hlt:=Zdn h14
  generalize Zcm (fun k:Nat=>Zgg x k) (List.range x.cells.length)=fb at *
  try rw [List.length_range] at hlt
  have d9:decide (fb<x.cells.length)=true:=decide_eq_true (by omega)
  clear hlt
  have h14:=Aside0.mk h14
  obtain ⟨p0,p1,p2,p3,p4,p5,p6⟩:=cellsP7 N
  refine Zan (by kernel_rfl) (by kernel_rfl) ?_
  have hx:=Zbg W
  repeat (go_big_quiet_step ((go_at_call 141;with_reducible exact Calls.ext_of_below (q _ (HB.trans ((Zam _ _).mono HB.size))))))
  refine wpQuiet_nil ?_
  rintro _ ⟨wt,rfl⟩
  have hbx:=Zam W wt
  clear hx p0 p1 p2 p3 p4 p5 p6
  replace HB:=HB.trans (hbx.mono HB.size);replace N:=Zab N hbx
  clear hbx
  generalize ext W wt=W at *
  obtain ⟨p0,p1,p2,p3,p4,p5,p6⟩:=cellsP7 N
  go_wp2_with (go_at_call 141;with_reducible refine (q _ HB).mono ?_;rintro e w1 ⟨rfl,hb1⟩)
  go_ret2
  exact ⟨⟨_,_,rfl,by rw [Zcz,h1.out,h2.out,h3.out,h4.out,h5.out,h6.out,h7.out,h8.out,h9.out,h10.out,h11.out,h12.out,h13.out,h14.out];rfl⟩,HB.trans (hb1.mono HB.size)⟩
 rw [Zcc h14,List.length_range] at q
 have h14:=Aside0.mk h14
 obtain ⟨p0,p1,p2,p3,p4,p5,p6⟩:=cellsP7 N
 refine Zan (by kernel_rfl) (by kernel_rfl) ?_
 have hx:=Zbg W
 repeat (go_big_quiet_step ((go_at_call 141;with_reducible exact Calls.ext_of_below (q _ (HB.trans ((Zam _ _).mono HB.size))))))
 refine wpQuiet_nil ?_
 rintro _ ⟨wt,rfl⟩
 have hbx:=Zam W wt
 clear hx p0 p1 p2 p3 p4 p5 p6
 replace HB:=HB.trans (hbx.mono HB.size);replace N:=Zab N hbx
 clear hbx
 generalize ext W wt=W at *
 clear q
 go_upto_region 29 with (fail)
 have q:=fun w1 (h:Below w.heap.size w w1)=>Zpb x _ w1 (Zai h hP) hA0
 cases h15:(List.range x.cells.length).all (fun k:Nat=>Zfs x k)
 case false =>
  have hlt:=Zdn h15
  generalize Zcm (fun k:Nat=>Zfs x k) (List.range x.cells.length)=fb at *
  try rw [List.length_range] at hlt
  have d9:decide (fb<x.cells.length)=true:=decide_eq_true (by omega)
  clear hlt
  have h15:=Aside0.mk h15
  obtain ⟨p0,p1,p2,p3,p4,p5,p6⟩:=cellsP7 N
  refine Zan (by kernel_rfl) (by kernel_rfl) ?_
  have hx:=Zbg W
  repeat (go_big_quiet_step ((go_at_call 142;with_reducible exact Calls.ext_of_below (q _ (HB.trans ((Zam _ _).mono HB.size))))))
  refine wpQuiet_nil ?_
  rintro _ ⟨wt,rfl⟩
  have hbx:=Zam W wt
  clear hx p0 p1 p2 p3 p4 p5 p6
  replace HB:=HB.trans (hbx.mono HB.size);replace N:=Zab N hbx
  clear hbx
  generalize ext W wt=W at *
  obtain ⟨p0,p1,p2,p3,p4,p5,p6⟩:=cellsP7 N
  go_wp2_with (go_at_call 142;with_reducible refine (q _ HB).mono ?_;rintro e w1 ⟨rfl,hb1⟩)
  go_ret2
  exact ⟨⟨_,_,rfl,by rw [Zcz,h1.out,h2.out,h3.out,h4.out,h5.out,h6.out,h7.out,h8.out,h9.out,h10.out,h11.out,h12.out,h13.out,h14.out,h15.out];rfl⟩,HB.trans (hb1.mono HB.size)⟩
 rw [Zcc h15,List.length_range] at q
 have h15:=Aside0.mk h15
 obtain ⟨p0,p1,p2,p3,p4,p5,p6⟩:=cellsP7 N
 refine Zan (by kernel_rfl) (by kernel_rfl) ?_
 have hx:=Zbg W
 repeat (go_big_quiet_step ((go_at_call 142;with_reducible exact Calls.ext_of_below (q _ (HB.trans ((Zam _ _).mono HB.size))))))
 refine wpQuiet_nil ?_
 rintro _ ⟨wt,rfl⟩
 have hbx:=Zam W wt
 clear hx p0 p1 p2 p3 p4 p5 p6
 replace HB:=HB.trans (hbx.mono HB.size);replace N:=Zab N hbx
 clear hbx
 generalize ext W wt=W at *
 clear q
 go_wp2
 go_ret2
 exact ⟨⟨_,_,rfl,by rw [Zcz,h1.out,h2.out,h3.out,h4.out,h5.out,h6.out,h7.out,h8.out,h9.out,h10.out,h11.out,h12.out,h13.out,h14.out,h15.out];rfl⟩,HB⟩
end Go.Proofs.YtaeckoinpllpnaaGreat
namespace Go.Proofs.YtaeckoinpllpnaaGreat
open Go.RowKit Go.Proofs.YtaeckoinpllpnaaGreatW.PrintWords
theorem Zeu (x:Pln) (cs:List Value) (w:World) (hP:allK w x kPln cs) :
  Calls Tryz.prog 54 #[.agg cs.toArray] w fun e w'=>e=.returned (.bool (Zcz x))∧Below w.heap.size w w':=by
 have q:=Znx x cs
 obtain ⟨A1,c1,A2,c2,A3,c3,A4,c4,rfl,l1,r1,l2,r2,l3,r3,l4,r4⟩:=Zcs hP
 have hw0:Below w.heap.size w (w.alloc (.cells #[.int .i64 x.nodes,.int .i64 x.secret,.int .i64 x.fuel,.slice A1 x.cells.length c1,.slice A2 x.ways.length c2,.slice A3 x.slots.length c3,.slice A4 x.turns.length c4] 33)):=(brf_).alloc nlr_ _
 go_enter Tryz.func54,Tryz.ntmps54
 go_wp2_with (go_at_call 100;with_reducible refine (q _ (Zai hw0 hP)).mono ?_;rintro e w1 ⟨⟨c,pl,rfl,hc⟩,hb1⟩;have hw:=hw0.trans (hb1.mono hw0.size))
 go_ret
 exact ⟨by rw [← hc];rfl,hw⟩
end Go.Proofs.YtaeckoinpllpnaaGreat
