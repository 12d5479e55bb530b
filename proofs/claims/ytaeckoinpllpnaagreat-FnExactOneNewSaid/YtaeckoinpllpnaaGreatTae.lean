/- Part 5 of the proof of its last text: this session's own texts, shortened and joined by a program of its own (wip/pack.py). -/
import Derived.Test.YtaeckoinpllpnaaGreatTad
import Derived.Test.YtaeckoinpllpnaaGreatTaa
import Derived.Laws.Tables
import Derived.Laws.Rows
set_option linter.unusedVariables false
set_option linter.unusedSimpArgs false
set_option maxHeartbeats 16000000
set_option maxRecDepth 100000
namespace Go.Proofs.YtaeckoinpllpnaaGreat
open Go.RowKit Go.Proofs.YtaeckoinpllpnaaGreatW.PrintWords
section
variable {P:Program} {ops:Array Oper} {o:Oper} {a:Act} {Q:Exit→Act→World→Prop} {K:Act→World→Prop} {α:Type}
theorem Zru (fs:List (Fd α)) {w0 W:World} (hw:Region.wanted o (yielded ops a.tmps)=true) (s x:Operand) (t e:TypeId) (z:Value) (bytes:Nat)
  (ho:o.op=.call { callee:=.builtin .append,args:=#[s,x],argTypes:=#[t,t] })
  (ht:P.underlying t=some (.slice e)) (hinfo:(P.info? e).map (fun i=>(i.zero,i.size,i.bytes))=some (some z,fs.length,bytes)) (hz:z.cells.size=fs.length) (hs0:0<fs.length) (hb0:0<bytes)
  (v:Value) (xs:List α) (p:α) (cs:List Value) (S T:Nat→Prop) (hs:a.eval s=v) (hx:a.eval x=.slice (some ⟨W.heap.size,0,none⟩) 1 1)
  (hp:Own fs W T p cs) (HO:Rw fs e W (fun k=>S k∧¬T k) v xs) (hT:∀ k,T k→S k) (hS:∀ k,S k→w0.heap.size≤k) (hfresh:∀ k,W.heap.size≤k→S k)
  (HB:Below w0.heap.size w0 W) (hl:(xs.length+1)*bytes≤140737488355328)
  (h:∀ v1 w1,Rw fs e w1 S v1 (xs++[p])→Below w0.heap.size w0 w1→W.grownBy w1 v.ownBlock→(v1.ownBlock=v.ownBlock∨∃ b,v1.ownBlock=some b∧W.heap.size≤b)→K (a.put o.dst v1) w1) :
  if Region.wanted o (yielded ops a.tmps)=true then Oper.wp P o a (W.alloc (.cells cs.toArray e)) K Q else K (a.put o.dst undef) (W.alloc (.cells cs.toArray e)):=by
 obtain ⟨inner,f,hown,h0,he⟩:=HO
 refine Znm w0.heap.size hw s x t e z fs.length bytes ho ht hinfo hz hs0 hb0 v xs.length inner cs hs hx (Znn hp) (Zpt (Zbh hp)) (Zhz hown (fun k hk=>hS k (h0 k hk).1)) HB HB.size hl ?_
 intro v1 w1 hown1 hb1 hg1 hat1
 exact h v1 w1 (Zqb h0 hown.1 he hp hT hfresh (Zhy hown1 (Nat.zero_le _)) hg1 hat1) hb1 hg1 hat1
end
structure NodR (W:World) (S:Nat→Prop) (x:Nod) (f:Nat→Nat) (u1 u2 u3 u4 u5 u6 u7:Value):Prop where
 r1:Rw Zby 103 W (fun k=>S k∧f k=3) u1 x.cells
 r2:Rw kBox 109 W (fun k=>S k∧f k=4) u2 x.out
 r3:Rw kBox 109 W (fun k=>S k∧f k=5) u3 x.inn
 r4:Rw Zhm 167 W (fun k=>S k∧f k=6) u4 x.outs
 r5:Rw kInI 170 W (fun k=>S k∧f k=7) u5 x.ins
 r6:Rw kInt 3 W (fun k=>S k∧f k=8) u6 x.boots
 r7:Rw kInt 3 W (fun k=>S k∧f k=9) u7 x.seqs
theorem NodR.own {W:World} {S:Nat→Prop} {x:Nod} {f:Nat→Nat} {u1 u2 u3 u4 u5 u6 u7:Value} (h:NodR W S x f u1 u2 u3 u4 u5 u6 u7):Own kNod W S x [.bool x.up,.int .i64 x.boot,.int .i64 x.hello,u1,u2,u3,u4,u5,u6,u7]:=Zxm f h.r1 h.r2 h.r3 h.r4 h.r5 h.r6 h.r7
theorem NodR.step {W w1:World} {S:Nat→Prop} {x:Nod} {f:Nat→Nat} {u1 u2 u3 u4 u5 u6 u7:Value} (h:NodR W S x f u1 u2 u3 u4 u5 u6 u7) (hm:∀ k,S k→k<W.heap.size→w1.heap[k]? = W.heap[k]?):NodR w1 S x f u1 u2 u3 u4 u5 u6 u7 :=
 ⟨Zah h.r1 (fun k hk hl=>hm k hk.1 hl),Zah h.r2 (fun k hk hl=>hm k hk.1 hl),Zah h.r3 (fun k hk hl=>hm k hk.1 hl),Zah h.r4 (fun k hk hl=>hm k hk.1 hl),Zah h.r5 (fun k hk hl=>hm k hk.1 hl),Zah h.r6 (fun k hk hl=>hm k hk.1 hl),Zah h.r7 (fun k hk hl=>hm k hk.1 hl)⟩
def lab (n:Nat) (f:Nat→Nat) (i:Nat) (k:Nat):Nat:=if k<n then f k else i
theorem NodR.app_cells {W0 W w1:World} {S:Nat→Prop} {x:Nod} {f:Nat→Nat} {u1 u2 u3 u4 u5 u6 u7 v1:Value} {ys:List CelSt} (h:NodR W0 S x f u1 u2 u3 u4 u5 u6 u7) (hb:Below W0.heap.size W0 W) (hg:W.grownBy w1 u1.ownBlock)
  (hn:Rw Zby 103 w1 (fun k=>S k∧((k<W0.heap.size∧f k=3)∨W0.heap.size≤k)) v1 ys):NodR w1 S { x with cells:=ys } (lab W0.heap.size f 3) v1 u2 u3 u4 u5 u6 u7:=by
 have keep:∀ (i:Nat),i≠3→∀ k,(S k∧f k=i)→k<W0.heap.size→w1.heap[k]? = W0.heap[k]? := by
  intro i hi k hk hl
  refine (hg.block k (Nat.lt_of_lt_of_le hl hb.size) (fun e=>?_)).trans (hb.block k hl)
  exact hi (hk.2.symm.trans ((Zca h.r1) k e.symm).1.2)
 have old:∀ (i k:Nat),((S k∧f k=i)∧k<W0.heap.size)→(S k∧lab W0.heap.size f 3 k=i):=fun i k hk=>⟨hk.1.1,(if_pos hk.2).trans hk.1.2⟩
 exact ⟨Zae hn (fun k hk=>⟨hk.1,hk.2.elim (fun h=>(if_pos h.1).trans h.2) (fun h=>if_neg (by omega))⟩),Zae (Zcd (Zaf h.r2) (fun k hk=>keep 4 (by decide) k hk.1 hk.2)) (old 4),Zae (Zcd (Zaf h.r3) (fun k hk=>keep 5 (by decide) k hk.1 hk.2)) (old 5),Zae (Zcd (Zaf h.r4) (fun k hk=>keep 6 (by decide) k hk.1 hk.2)) (old 6),Zae (Zcd (Zaf h.r5) (fun k hk=>keep 7 (by decide) k hk.1 hk.2)) (old 7),Zae (Zcd (Zaf h.r6) (fun k hk=>keep 8 (by decide) k hk.1 hk.2)) (old 8),Zae (Zcd (Zaf h.r7) (fun k hk=>keep 9 (by decide) k hk.1 hk.2)) (old 9)⟩
theorem NodR.app_out {W0 W w1:World} {S:Nat→Prop} {x:Nod} {f:Nat→Nat} {u1 u2 u3 u4 u5 u6 u7 v1:Value} {ys:List Box} (h:NodR W0 S x f u1 u2 u3 u4 u5 u6 u7) (hb:Below W0.heap.size W0 W) (hg:W.grownBy w1 u2.ownBlock)
  (hn:Rw kBox 109 w1 (fun k=>S k∧((k<W0.heap.size∧f k=4)∨W0.heap.size≤k)) v1 ys):NodR w1 S { x with out:=ys } (lab W0.heap.size f 4) u1 v1 u3 u4 u5 u6 u7:=by
 have keep:∀ (i:Nat),i≠4→∀ k,(S k∧f k=i)→k<W0.heap.size→w1.heap[k]? = W0.heap[k]? := by
  intro i hi k hk hl
  refine (hg.block k (Nat.lt_of_lt_of_le hl hb.size) (fun e=>?_)).trans (hb.block k hl)
  exact hi (hk.2.symm.trans ((Zca h.r2) k e.symm).1.2)
 have old:∀ (i k:Nat),((S k∧f k=i)∧k<W0.heap.size)→(S k∧lab W0.heap.size f 4 k=i):=fun i k hk=>⟨hk.1.1,(if_pos hk.2).trans hk.1.2⟩
 exact ⟨Zae (Zcd (Zaf h.r1) (fun k hk=>keep 3 (by decide) k hk.1 hk.2)) (old 3),Zae hn (fun k hk=>⟨hk.1,hk.2.elim (fun h=>(if_pos h.1).trans h.2) (fun h=>if_neg (by omega))⟩),Zae (Zcd (Zaf h.r3) (fun k hk=>keep 5 (by decide) k hk.1 hk.2)) (old 5),Zae (Zcd (Zaf h.r4) (fun k hk=>keep 6 (by decide) k hk.1 hk.2)) (old 6),Zae (Zcd (Zaf h.r5) (fun k hk=>keep 7 (by decide) k hk.1 hk.2)) (old 7),Zae (Zcd (Zaf h.r6) (fun k hk=>keep 8 (by decide) k hk.1 hk.2)) (old 8),Zae (Zcd (Zaf h.r7) (fun k hk=>keep 9 (by decide) k hk.1 hk.2)) (old 9)⟩
theorem NodR.app_inn {W0 W w1:World} {S:Nat→Prop} {x:Nod} {f:Nat→Nat} {u1 u2 u3 u4 u5 u6 u7 v1:Value} {ys:List Box} (h:NodR W0 S x f u1 u2 u3 u4 u5 u6 u7) (hb:Below W0.heap.size W0 W) (hg:W.grownBy w1 u3.ownBlock)
  (hn:Rw kBox 109 w1 (fun k=>S k∧((k<W0.heap.size∧f k=5)∨W0.heap.size≤k)) v1 ys):NodR w1 S { x with inn:=ys } (lab W0.heap.size f 5) u1 u2 v1 u4 u5 u6 u7:=by
 have keep:∀ (i:Nat),i≠5→∀ k,(S k∧f k=i)→k<W0.heap.size→w1.heap[k]? = W0.heap[k]? := by
  intro i hi k hk hl
  refine (hg.block k (Nat.lt_of_lt_of_le hl hb.size) (fun e=>?_)).trans (hb.block k hl)
  exact hi (hk.2.symm.trans ((Zca h.r3) k e.symm).1.2)
 have old:∀ (i k:Nat),((S k∧f k=i)∧k<W0.heap.size)→(S k∧lab W0.heap.size f 5 k=i):=fun i k hk=>⟨hk.1.1,(if_pos hk.2).trans hk.1.2⟩
 exact ⟨Zae (Zcd (Zaf h.r1) (fun k hk=>keep 3 (by decide) k hk.1 hk.2)) (old 3),Zae (Zcd (Zaf h.r2) (fun k hk=>keep 4 (by decide) k hk.1 hk.2)) (old 4),Zae hn (fun k hk=>⟨hk.1,hk.2.elim (fun h=>(if_pos h.1).trans h.2) (fun h=>if_neg (by omega))⟩),Zae (Zcd (Zaf h.r4) (fun k hk=>keep 6 (by decide) k hk.1 hk.2)) (old 6),Zae (Zcd (Zaf h.r5) (fun k hk=>keep 7 (by decide) k hk.1 hk.2)) (old 7),Zae (Zcd (Zaf h.r6) (fun k hk=>keep 8 (by decide) k hk.1 hk.2)) (old 8),Zae (Zcd (Zaf h.r7) (fun k hk=>keep 9 (by decide) k hk.1 hk.2)) (old 9)⟩
theorem NodR.app_outs {W0 W w1:World} {S:Nat→Prop} {x:Nod} {f:Nat→Nat} {u1 u2 u3 u4 u5 u6 u7 v1:Value} {ys:List OutO} (h:NodR W0 S x f u1 u2 u3 u4 u5 u6 u7) (hb:Below W0.heap.size W0 W) (hg:W.grownBy w1 u4.ownBlock)
  (hn:Rw Zhm 167 w1 (fun k=>S k∧((k<W0.heap.size∧f k=6)∨W0.heap.size≤k)) v1 ys):NodR w1 S { x with outs:=ys } (lab W0.heap.size f 6) u1 u2 u3 v1 u5 u6 u7:=by
 have keep:∀ (i:Nat),i≠6→∀ k,(S k∧f k=i)→k<W0.heap.size→w1.heap[k]? = W0.heap[k]? := by
  intro i hi k hk hl
  refine (hg.block k (Nat.lt_of_lt_of_le hl hb.size) (fun e=>?_)).trans (hb.block k hl)
  exact hi (hk.2.symm.trans ((Zca h.r4) k e.symm).1.2)
 have old:∀ (i k:Nat),((S k∧f k=i)∧k<W0.heap.size)→(S k∧lab W0.heap.size f 6 k=i):=fun i k hk=>⟨hk.1.1,(if_pos hk.2).trans hk.1.2⟩
 exact ⟨Zae (Zcd (Zaf h.r1) (fun k hk=>keep 3 (by decide) k hk.1 hk.2)) (old 3),Zae (Zcd (Zaf h.r2) (fun k hk=>keep 4 (by decide) k hk.1 hk.2)) (old 4),Zae (Zcd (Zaf h.r3) (fun k hk=>keep 5 (by decide) k hk.1 hk.2)) (old 5),Zae hn (fun k hk=>⟨hk.1,hk.2.elim (fun h=>(if_pos h.1).trans h.2) (fun h=>if_neg (by omega))⟩),Zae (Zcd (Zaf h.r5) (fun k hk=>keep 7 (by decide) k hk.1 hk.2)) (old 7),Zae (Zcd (Zaf h.r6) (fun k hk=>keep 8 (by decide) k hk.1 hk.2)) (old 8),Zae (Zcd (Zaf h.r7) (fun k hk=>keep 9 (by decide) k hk.1 hk.2)) (old 9)⟩
theorem NodR.app_ins {W0 W w1:World} {S:Nat→Prop} {x:Nod} {f:Nat→Nat} {u1 u2 u3 u4 u5 u6 u7 v1:Value} {ys:List InI} (h:NodR W0 S x f u1 u2 u3 u4 u5 u6 u7) (hb:Below W0.heap.size W0 W) (hg:W.grownBy w1 u5.ownBlock)
  (hn:Rw kInI 170 w1 (fun k=>S k∧((k<W0.heap.size∧f k=7)∨W0.heap.size≤k)) v1 ys):NodR w1 S { x with ins:=ys } (lab W0.heap.size f 7) u1 u2 u3 u4 v1 u6 u7:=by
 have keep:∀ (i:Nat),i≠7→∀ k,(S k∧f k=i)→k<W0.heap.size→w1.heap[k]? = W0.heap[k]? := by
  intro i hi k hk hl
  refine (hg.block k (Nat.lt_of_lt_of_le hl hb.size) (fun e=>?_)).trans (hb.block k hl)
  exact hi (hk.2.symm.trans ((Zca h.r5) k e.symm).1.2)
 have old:∀ (i k:Nat),((S k∧f k=i)∧k<W0.heap.size)→(S k∧lab W0.heap.size f 7 k=i):=fun i k hk=>⟨hk.1.1,(if_pos hk.2).trans hk.1.2⟩
 exact ⟨Zae (Zcd (Zaf h.r1) (fun k hk=>keep 3 (by decide) k hk.1 hk.2)) (old 3),Zae (Zcd (Zaf h.r2) (fun k hk=>keep 4 (by decide) k hk.1 hk.2)) (old 4),Zae (Zcd (Zaf h.r3) (fun k hk=>keep 5 (by decide) k hk.1 hk.2)) (old 5),Zae (Zcd (Zaf h.r4) (fun k hk=>keep 6 (by decide) k hk.1 hk.2)) (old 6),Zae hn (fun k hk=>⟨hk.1,hk.2.elim (fun h=>(if_pos h.1).trans h.2) (fun h=>if_neg (by omega))⟩),Zae (Zcd (Zaf h.r6) (fun k hk=>keep 8 (by decide) k hk.1 hk.2)) (old 8),Zae (Zcd (Zaf h.r7) (fun k hk=>keep 9 (by decide) k hk.1 hk.2)) (old 9)⟩
abbrev Pie:=World→(Nat→Prop)→Prop
structure Pc (P:Pie):Prop where
 mono:∀ {w:World} {S T:Nat→Prop},(∀ k,S k→T k)→P w S→P w T
 bound:∀ {w:World} {S:Nat→Prop},P w S→P w (fun k=>S k∧k<w.heap.size)
 move:∀ {w w1:World} {S:Nat→Prop},(∀ k,S k→w1.heap[k]? = w.heap[k]?)→P w S→P w1 S
def Zbw:Pie:=fun _ _=>True
theorem Zet:Pc Zbw:=⟨fun _ _=>trivial,fun _=>trivial,fun _ _=>trivial⟩
def pRw {α:Type} (fs:List (Fd α)) (e:TypeId) (v:Value) (xs:List α):Pie:=fun w S=>Rw fs e w S v xs
theorem pcRw {α:Type} (fs:List (Fd α)) (e:TypeId) (v:Value) (xs:List α):Pc (pRw fs e v xs):=⟨fun hs h=>Zae h hs,fun h=>Zaf h,fun hm h=>Zcd h hm⟩
def pOwn {α:Type} (fs:List (Fd α)) (x:α) (cs:List Value):Pie:=fun w S=>Own fs w S x cs
theorem Zxn {α:Type} (fs:List (Fd α)) (x:α) (cs:List Value):Pc (pOwn fs x cs):=⟨fun hs h=>Zbx h hs,fun h=>Zcj h,fun hm h=>Zjr h hm⟩
structure P8 (W:World) (S:Nat→Prop) (f:Nat→Nat) (P0 P1 P2 P3 P4 P5 P6 P7:Pie):Prop where
 r0:P0 W (fun k=>S k∧f k=0)
 r1:P1 W (fun k=>S k∧f k=1)
 r2:P2 W (fun k=>S k∧f k=2)
 r3:P3 W (fun k=>S k∧f k=3)
 r4:P4 W (fun k=>S k∧f k=4)
 r5:P5 W (fun k=>S k∧f k=5)
 r6:P6 W (fun k=>S k∧f k=6)
 r7:P7 W (fun k=>S k∧f k=7)
 c0:Pc P0
 c1:Pc P1
 c2:Pc P2
 c3:Pc P3
 c4:Pc P4
 c5:Pc P5
 c6:Pc P6
 c7:Pc P7
theorem P8.skip {W w1:World} {S T:Nat→Prop} {f:Nat→Nat} {P0 P1 P2 P3 P4 P5 P6 P7:Pie} (h:P8 W S f P0 P1 P2 P3 P4 P5 P6 P7) (hm:∀ k,S k→k<W.heap.size→w1.heap[k]? = W.heap[k]?) (hT:∀ k,S k→k<W.heap.size→T k):P8 w1 T f P0 P1 P2 P3 P4 P5 P6 P7 :=
 ⟨h.c0.mono (fun k hk=>⟨hT k hk.1.1 hk.2,hk.1.2⟩) (h.c0.move (fun k hk=>hm k hk.1.1 hk.2) (h.c0.bound h.r0)),h.c1.mono (fun k hk=>⟨hT k hk.1.1 hk.2,hk.1.2⟩) (h.c1.move (fun k hk=>hm k hk.1.1 hk.2) (h.c1.bound h.r1)),h.c2.mono (fun k hk=>⟨hT k hk.1.1 hk.2,hk.1.2⟩) (h.c2.move (fun k hk=>hm k hk.1.1 hk.2) (h.c2.bound h.r2)),h.c3.mono (fun k hk=>⟨hT k hk.1.1 hk.2,hk.1.2⟩) (h.c3.move (fun k hk=>hm k hk.1.1 hk.2) (h.c3.bound h.r3)),h.c4.mono (fun k hk=>⟨hT k hk.1.1 hk.2,hk.1.2⟩) (h.c4.move (fun k hk=>hm k hk.1.1 hk.2) (h.c4.bound h.r4)),h.c5.mono (fun k hk=>⟨hT k hk.1.1 hk.2,hk.1.2⟩) (h.c5.move (fun k hk=>hm k hk.1.1 hk.2) (h.c5.bound h.r5)),h.c6.mono (fun k hk=>⟨hT k hk.1.1 hk.2,hk.1.2⟩) (h.c6.move (fun k hk=>hm k hk.1.1 hk.2) (h.c6.bound h.r6)),h.c7.mono (fun k hk=>⟨hT k hk.1.1 hk.2,hk.1.2⟩) (h.c7.move (fun k hk=>hm k hk.1.1 hk.2) (h.c7.bound h.r7)),h.c0,h.c1,h.c2,h.c3,h.c4,h.c5,h.c6,h.c7⟩
theorem Zfq {n:Nat} {f:Nat→Nat} {i k:Nat} (h:k<n):lab n f i k=f k:=if_pos h
theorem Zta {n:Nat} {f:Nat→Nat} {i k:Nat} (h:n≤k):lab n f i k=i:=if_neg (by omega)
theorem P8.skipf {W w1:World} {S T:Nat→Prop} {f g:Nat→Nat} {P0 P1 P2 P3 P4 P5 P6 P7:Pie} (h:P8 W S f P0 P1 P2 P3 P4 P5 P6 P7) (hm:∀ k,S k→k<W.heap.size→w1.heap[k]? = W.heap[k]?) (hT:∀ k,S k→k<W.heap.size→T k) (hf:∀ k,S k→k<W.heap.size→g k=f k):P8 w1 T g P0 P1 P2 P3 P4 P5 P6 P7 :=
 ⟨h.c0.mono (fun k hk=>⟨hT k hk.1.1 hk.2,(hf k hk.1.1 hk.2).trans hk.1.2⟩) (h.c0.move (fun k hk=>hm k hk.1.1 hk.2) (h.c0.bound h.r0)),h.c1.mono (fun k hk=>⟨hT k hk.1.1 hk.2,(hf k hk.1.1 hk.2).trans hk.1.2⟩) (h.c1.move (fun k hk=>hm k hk.1.1 hk.2) (h.c1.bound h.r1)),h.c2.mono (fun k hk=>⟨hT k hk.1.1 hk.2,(hf k hk.1.1 hk.2).trans hk.1.2⟩) (h.c2.move (fun k hk=>hm k hk.1.1 hk.2) (h.c2.bound h.r2)),h.c3.mono (fun k hk=>⟨hT k hk.1.1 hk.2,(hf k hk.1.1 hk.2).trans hk.1.2⟩) (h.c3.move (fun k hk=>hm k hk.1.1 hk.2) (h.c3.bound h.r3)),h.c4.mono (fun k hk=>⟨hT k hk.1.1 hk.2,(hf k hk.1.1 hk.2).trans hk.1.2⟩) (h.c4.move (fun k hk=>hm k hk.1.1 hk.2) (h.c4.bound h.r4)),h.c5.mono (fun k hk=>⟨hT k hk.1.1 hk.2,(hf k hk.1.1 hk.2).trans hk.1.2⟩) (h.c5.move (fun k hk=>hm k hk.1.1 hk.2) (h.c5.bound h.r5)),h.c6.mono (fun k hk=>⟨hT k hk.1.1 hk.2,(hf k hk.1.1 hk.2).trans hk.1.2⟩) (h.c6.move (fun k hk=>hm k hk.1.1 hk.2) (h.c6.bound h.r6)),h.c7.mono (fun k hk=>⟨hT k hk.1.1 hk.2,(hf k hk.1.1 hk.2).trans hk.1.2⟩) (h.c7.move (fun k hk=>hm k hk.1.1 hk.2) (h.c7.bound h.r7)),h.c0,h.c1,h.c2,h.c3,h.c4,h.c5,h.c6,h.c7⟩
theorem P8.step {W w1:World} {S:Nat→Prop} {f:Nat→Nat} {P0 P1 P2 P3 P4 P5 P6 P7:Pie} (h:P8 W S f P0 P1 P2 P3 P4 P5 P6 P7) (hm:∀ k,S k→k<W.heap.size→w1.heap[k]? = W.heap[k]?):P8 w1 S f P0 P1 P2 P3 P4 P5 P6 P7:=h.skip hm (fun _ hk _=>hk)
theorem P8.app0 {W0 W w1:World} {S:Nat→Prop} {f:Nat→Nat} {P0 P1 P2 P3 P4 P5 P6 P7 Q:Pie} (h:P8 W0 S f P0 P1 P2 P3 P4 P5 P6 P7) (hb:Below W0.heap.size W0 W) {ob:Option Nat} (hg:W.grownBy w1 ob) (ho:∀ k,ob=some k→f k=0) (hQ:Pc Q)
  (hn:Q w1 (fun k=>S k∧((k<W0.heap.size∧f k=0)∨W0.heap.size≤k))):P8 w1 S (lab W0.heap.size f 0) Q P1 P2 P3 P4 P5 P6 P7:=by
 have keep:∀ (i:Nat),i≠0→∀ k,(S k∧f k=i)→k<W0.heap.size→w1.heap[k]? = W0.heap[k]? := by
  intro i hi k hk hl
  exact (hg.block k (Nat.lt_of_lt_of_le hl hb.size) (fun e=>hi (hk.2.symm.trans (ho k e.symm)))).trans (hb.block k hl)
 have old:∀ (i k:Nat),((S k∧f k=i)∧k<W0.heap.size)→(S k∧lab W0.heap.size f 0 k=i):=fun i k hk=>⟨hk.1.1,(if_pos hk.2).trans hk.1.2⟩
 exact ⟨hQ.mono (fun k hk=>⟨hk.1,hk.2.elim (fun h=>(if_pos h.1).trans h.2) (fun h=>if_neg (by omega))⟩) hn,h.c1.mono (old 1) (h.c1.move (fun k hk=>keep 1 (by decide) k hk.1 hk.2) (h.c1.bound h.r1)),h.c2.mono (old 2) (h.c2.move (fun k hk=>keep 2 (by decide) k hk.1 hk.2) (h.c2.bound h.r2)),h.c3.mono (old 3) (h.c3.move (fun k hk=>keep 3 (by decide) k hk.1 hk.2) (h.c3.bound h.r3)),h.c4.mono (old 4) (h.c4.move (fun k hk=>keep 4 (by decide) k hk.1 hk.2) (h.c4.bound h.r4)),h.c5.mono (old 5) (h.c5.move (fun k hk=>keep 5 (by decide) k hk.1 hk.2) (h.c5.bound h.r5)),h.c6.mono (old 6) (h.c6.move (fun k hk=>keep 6 (by decide) k hk.1 hk.2) (h.c6.bound h.r6)),h.c7.mono (old 7) (h.c7.move (fun k hk=>keep 7 (by decide) k hk.1 hk.2) (h.c7.bound h.r7)),hQ,h.c1,h.c2,h.c3,h.c4,h.c5,h.c6,h.c7⟩
theorem P8.app1 {W0 W w1:World} {S:Nat→Prop} {f:Nat→Nat} {P0 P1 P2 P3 P4 P5 P6 P7 Q:Pie} (h:P8 W0 S f P0 P1 P2 P3 P4 P5 P6 P7) (hb:Below W0.heap.size W0 W) {ob:Option Nat} (hg:W.grownBy w1 ob) (ho:∀ k,ob=some k→f k=1) (hQ:Pc Q)
  (hn:Q w1 (fun k=>S k∧((k<W0.heap.size∧f k=1)∨W0.heap.size≤k))):P8 w1 S (lab W0.heap.size f 1) P0 Q P2 P3 P4 P5 P6 P7:=by
 have keep:∀ (i:Nat),i≠1→∀ k,(S k∧f k=i)→k<W0.heap.size→w1.heap[k]? = W0.heap[k]? := by
  intro i hi k hk hl
  exact (hg.block k (Nat.lt_of_lt_of_le hl hb.size) (fun e=>hi (hk.2.symm.trans (ho k e.symm)))).trans (hb.block k hl)
 have old:∀ (i k:Nat),((S k∧f k=i)∧k<W0.heap.size)→(S k∧lab W0.heap.size f 1 k=i):=fun i k hk=>⟨hk.1.1,(if_pos hk.2).trans hk.1.2⟩
 exact ⟨h.c0.mono (old 0) (h.c0.move (fun k hk=>keep 0 (by decide) k hk.1 hk.2) (h.c0.bound h.r0)),hQ.mono (fun k hk=>⟨hk.1,hk.2.elim (fun h=>(if_pos h.1).trans h.2) (fun h=>if_neg (by omega))⟩) hn,h.c2.mono (old 2) (h.c2.move (fun k hk=>keep 2 (by decide) k hk.1 hk.2) (h.c2.bound h.r2)),h.c3.mono (old 3) (h.c3.move (fun k hk=>keep 3 (by decide) k hk.1 hk.2) (h.c3.bound h.r3)),h.c4.mono (old 4) (h.c4.move (fun k hk=>keep 4 (by decide) k hk.1 hk.2) (h.c4.bound h.r4)),h.c5.mono (old 5) (h.c5.move (fun k hk=>keep 5 (by decide) k hk.1 hk.2) (h.c5.bound h.r5)),h.c6.mono (old 6) (h.c6.move (fun k hk=>keep 6 (by decide) k hk.1 hk.2) (h.c6.bound h.r6)),h.c7.mono (old 7) (h.c7.move (fun k hk=>keep 7 (by decide) k hk.1 hk.2) (h.c7.bound h.r7)),h.c0,hQ,h.c2,h.c3,h.c4,h.c5,h.c6,h.c7⟩
theorem P8.app2 {W0 W w1:World} {S:Nat→Prop} {f:Nat→Nat} {P0 P1 P2 P3 P4 P5 P6 P7 Q:Pie} (h:P8 W0 S f P0 P1 P2 P3 P4 P5 P6 P7) (hb:Below W0.heap.size W0 W) {ob:Option Nat} (hg:W.grownBy w1 ob) (ho:∀ k,ob=some k→f k=2) (hQ:Pc Q)
  (hn:Q w1 (fun k=>S k∧((k<W0.heap.size∧f k=2)∨W0.heap.size≤k))):P8 w1 S (lab W0.heap.size f 2) P0 P1 Q P3 P4 P5 P6 P7:=by
 have keep:∀ (i:Nat),i≠2→∀ k,(S k∧f k=i)→k<W0.heap.size→w1.heap[k]? = W0.heap[k]? := by
  intro i hi k hk hl
  exact (hg.block k (Nat.lt_of_lt_of_le hl hb.size) (fun e=>hi (hk.2.symm.trans (ho k e.symm)))).trans (hb.block k hl)
 have old:∀ (i k:Nat),((S k∧f k=i)∧k<W0.heap.size)→(S k∧lab W0.heap.size f 2 k=i):=fun i k hk=>⟨hk.1.1,(if_pos hk.2).trans hk.1.2⟩
 exact ⟨h.c0.mono (old 0) (h.c0.move (fun k hk=>keep 0 (by decide) k hk.1 hk.2) (h.c0.bound h.r0)),h.c1.mono (old 1) (h.c1.move (fun k hk=>keep 1 (by decide) k hk.1 hk.2) (h.c1.bound h.r1)),hQ.mono (fun k hk=>⟨hk.1,hk.2.elim (fun h=>(if_pos h.1).trans h.2) (fun h=>if_neg (by omega))⟩) hn,h.c3.mono (old 3) (h.c3.move (fun k hk=>keep 3 (by decide) k hk.1 hk.2) (h.c3.bound h.r3)),h.c4.mono (old 4) (h.c4.move (fun k hk=>keep 4 (by decide) k hk.1 hk.2) (h.c4.bound h.r4)),h.c5.mono (old 5) (h.c5.move (fun k hk=>keep 5 (by decide) k hk.1 hk.2) (h.c5.bound h.r5)),h.c6.mono (old 6) (h.c6.move (fun k hk=>keep 6 (by decide) k hk.1 hk.2) (h.c6.bound h.r6)),h.c7.mono (old 7) (h.c7.move (fun k hk=>keep 7 (by decide) k hk.1 hk.2) (h.c7.bound h.r7)),h.c0,h.c1,hQ,h.c3,h.c4,h.c5,h.c6,h.c7⟩
theorem P8.app3 {W0 W w1:World} {S:Nat→Prop} {f:Nat→Nat} {P0 P1 P2 P3 P4 P5 P6 P7 Q:Pie} (h:P8 W0 S f P0 P1 P2 P3 P4 P5 P6 P7) (hb:Below W0.heap.size W0 W) {ob:Option Nat} (hg:W.grownBy w1 ob) (ho:∀ k,ob=some k→f k=3) (hQ:Pc Q)
  (hn:Q w1 (fun k=>S k∧((k<W0.heap.size∧f k=3)∨W0.heap.size≤k))):P8 w1 S (lab W0.heap.size f 3) P0 P1 P2 Q P4 P5 P6 P7:=by
 have keep:∀ (i:Nat),i≠3→∀ k,(S k∧f k=i)→k<W0.heap.size→w1.heap[k]? = W0.heap[k]? := by
  intro i hi k hk hl
  exact (hg.block k (Nat.lt_of_lt_of_le hl hb.size) (fun e=>hi (hk.2.symm.trans (ho k e.symm)))).trans (hb.block k hl)
 have old:∀ (i k:Nat),((S k∧f k=i)∧k<W0.heap.size)→(S k∧lab W0.heap.size f 3 k=i):=fun i k hk=>⟨hk.1.1,(if_pos hk.2).trans hk.1.2⟩
 exact ⟨h.c0.mono (old 0) (h.c0.move (fun k hk=>keep 0 (by decide) k hk.1 hk.2) (h.c0.bound h.r0)),h.c1.mono (old 1) (h.c1.move (fun k hk=>keep 1 (by decide) k hk.1 hk.2) (h.c1.bound h.r1)),h.c2.mono (old 2) (h.c2.move (fun k hk=>keep 2 (by decide) k hk.1 hk.2) (h.c2.bound h.r2)),hQ.mono (fun k hk=>⟨hk.1,hk.2.elim (fun h=>(if_pos h.1).trans h.2) (fun h=>if_neg (by omega))⟩) hn,h.c4.mono (old 4) (h.c4.move (fun k hk=>keep 4 (by decide) k hk.1 hk.2) (h.c4.bound h.r4)),h.c5.mono (old 5) (h.c5.move (fun k hk=>keep 5 (by decide) k hk.1 hk.2) (h.c5.bound h.r5)),h.c6.mono (old 6) (h.c6.move (fun k hk=>keep 6 (by decide) k hk.1 hk.2) (h.c6.bound h.r6)),h.c7.mono (old 7) (h.c7.move (fun k hk=>keep 7 (by decide) k hk.1 hk.2) (h.c7.bound h.r7)),h.c0,h.c1,h.c2,hQ,h.c4,h.c5,h.c6,h.c7⟩
theorem P8.app4 {W0 W w1:World} {S:Nat→Prop} {f:Nat→Nat} {P0 P1 P2 P3 P4 P5 P6 P7 Q:Pie} (h:P8 W0 S f P0 P1 P2 P3 P4 P5 P6 P7) (hb:Below W0.heap.size W0 W) {ob:Option Nat} (hg:W.grownBy w1 ob) (ho:∀ k,ob=some k→f k=4) (hQ:Pc Q)
  (hn:Q w1 (fun k=>S k∧((k<W0.heap.size∧f k=4)∨W0.heap.size≤k))):P8 w1 S (lab W0.heap.size f 4) P0 P1 P2 P3 Q P5 P6 P7:=by
 have keep:∀ (i:Nat),i≠4→∀ k,(S k∧f k=i)→k<W0.heap.size→w1.heap[k]? = W0.heap[k]? := by
  intro i hi k hk hl
  exact (hg.block k (Nat.lt_of_lt_of_le hl hb.size) (fun e=>hi (hk.2.symm.trans (ho k e.symm)))).trans (hb.block k hl)
 have old:∀ (i k:Nat),((S k∧f k=i)∧k<W0.heap.size)→(S k∧lab W0.heap.size f 4 k=i):=fun i k hk=>⟨hk.1.1,(if_pos hk.2).trans hk.1.2⟩
 exact ⟨h.c0.mono (old 0) (h.c0.move (fun k hk=>keep 0 (by decide) k hk.1 hk.2) (h.c0.bound h.r0)),h.c1.mono (old 1) (h.c1.move (fun k hk=>keep 1 (by decide) k hk.1 hk.2) (h.c1.bound h.r1)),h.c2.mono (old 2) (h.c2.move (fun k hk=>keep 2 (by decide) k hk.1 hk.2) (h.c2.bound h.r2)),h.c3.mono (old 3) (h.c3.move (fun k hk=>keep 3 (by decide) k hk.1 hk.2) (h.c3.bound h.r3)),hQ.mono (fun k hk=>⟨hk.1,hk.2.elim (fun h=>(if_pos h.1).trans h.2) (fun h=>if_neg (by omega))⟩) hn,h.c5.mono (old 5) (h.c5.move (fun k hk=>keep 5 (by decide) k hk.1 hk.2) (h.c5.bound h.r5)),h.c6.mono (old 6) (h.c6.move (fun k hk=>keep 6 (by decide) k hk.1 hk.2) (h.c6.bound h.r6)),h.c7.mono (old 7) (h.c7.move (fun k hk=>keep 7 (by decide) k hk.1 hk.2) (h.c7.bound h.r7)),h.c0,h.c1,h.c2,h.c3,hQ,h.c5,h.c6,h.c7⟩
theorem P8.app5 {W0 W w1:World} {S:Nat→Prop} {f:Nat→Nat} {P0 P1 P2 P3 P4 P5 P6 P7 Q:Pie} (h:P8 W0 S f P0 P1 P2 P3 P4 P5 P6 P7) (hb:Below W0.heap.size W0 W) {ob:Option Nat} (hg:W.grownBy w1 ob) (ho:∀ k,ob=some k→f k=5) (hQ:Pc Q)
  (hn:Q w1 (fun k=>S k∧((k<W0.heap.size∧f k=5)∨W0.heap.size≤k))):P8 w1 S (lab W0.heap.size f 5) P0 P1 P2 P3 P4 Q P6 P7:=by
 have keep:∀ (i:Nat),i≠5→∀ k,(S k∧f k=i)→k<W0.heap.size→w1.heap[k]? = W0.heap[k]? := by
  intro i hi k hk hl
  exact (hg.block k (Nat.lt_of_lt_of_le hl hb.size) (fun e=>hi (hk.2.symm.trans (ho k e.symm)))).trans (hb.block k hl)
 have old:∀ (i k:Nat),((S k∧f k=i)∧k<W0.heap.size)→(S k∧lab W0.heap.size f 5 k=i):=fun i k hk=>⟨hk.1.1,(if_pos hk.2).trans hk.1.2⟩
 exact ⟨h.c0.mono (old 0) (h.c0.move (fun k hk=>keep 0 (by decide) k hk.1 hk.2) (h.c0.bound h.r0)),h.c1.mono (old 1) (h.c1.move (fun k hk=>keep 1 (by decide) k hk.1 hk.2) (h.c1.bound h.r1)),h.c2.mono (old 2) (h.c2.move (fun k hk=>keep 2 (by decide) k hk.1 hk.2) (h.c2.bound h.r2)),h.c3.mono (old 3) (h.c3.move (fun k hk=>keep 3 (by decide) k hk.1 hk.2) (h.c3.bound h.r3)),h.c4.mono (old 4) (h.c4.move (fun k hk=>keep 4 (by decide) k hk.1 hk.2) (h.c4.bound h.r4)),hQ.mono (fun k hk=>⟨hk.1,hk.2.elim (fun h=>(if_pos h.1).trans h.2) (fun h=>if_neg (by omega))⟩) hn,h.c6.mono (old 6) (h.c6.move (fun k hk=>keep 6 (by decide) k hk.1 hk.2) (h.c6.bound h.r6)),h.c7.mono (old 7) (h.c7.move (fun k hk=>keep 7 (by decide) k hk.1 hk.2) (h.c7.bound h.r7)),h.c0,h.c1,h.c2,h.c3,h.c4,hQ,h.c6,h.c7⟩
def upB (n k:Nat):Array Bool:=((List.range n).map fun i=>decide (i<k)).toArray
theorem pkA {α:Type} (l:List α) (i:Nat) (a:α):l.toArray.setIfInBounds i a=(l.set i a).toArray:=by simp
theorem pkB {α:Type} (a b:α) (l:List α):(a::l).set 0 b=b::l:=rfl
theorem pkC {α:Type} (a b:α) (l:List α) (n:Nat):(a::l).set (n+1) b=a::l.set n b:=rfl
theorem Zcg {α:Type} {p:α→Bool} {xs:List α} {k:Nat} {x:α} (hx:xs[k]? = some x) (h:p x=false):xs.all p=false:=by
 rw [List.all_eq_false]
 obtain ⟨hl,hx⟩:=List.getElem?_eq_some_iff.1 hx
 exact ⟨x,hx▸List.getElem_mem hl,by simp [h]⟩
theorem Zbi {α:Type} {p:α→Bool} {xs:List α} {k:Nat} {x:α} (hx:xs[k]? = some x) (h0:(xs.take k).all p=true) (h:p x=true):(xs.take (k+1)).all p=true:=by
 obtain ⟨hl,hx⟩:=List.getElem?_eq_some_iff.1 hx
 rw [List.take_succ_eq_append_getElem hl,List.all_append,h0,hx]
 simp [h]
end Go.Proofs.YtaeckoinpllpnaaGreat
namespace Go.Proofs.YtaeckoinpllpnaaGreat
open Go.RowKit Go.Proofs.YtaeckoinpllpnaaGreatW.PrintWords Go.Proofs.YtaeckoinpllpnaaGreatW.PrintLast
theorem Zco {a:Act} {t:Nat} {v:Value} (h:t<a.tmps.size):(a.put (some t) v).eval (.tmp t)=v:=by
 simp [Act.put,Act.eval,h]
theorem Zaq {a:Act} {t k:Nat} {v:Value} (h:t≠k):(a.put (some t) v).eval (.tmp k)=a.eval (.tmp k):=by
 simp [Act.put,Act.eval,Array.getElem?_setIfInBounds_ne h]
theorem Zcb {a:Act} {t:Nat} {v:Value}:(a.put (some t) v).tmps.size=a.tmps.size:=by simp [Act.put]
def Zbc (W0:World) (bad:Option Nat) (w:World):Prop:=∀ k,k<W0.heap.size→some k≠bad→w.heap[k]? = W0.heap[k]?
theorem Zbc.refl (W0:World) (bad:Option Nat):Zbc W0 bad W0:=fun _ _ _=>rfl
theorem Zbc.below {W0 W w1:World} {bad:Option Nat} (h:Zbc W0 bad W) (hs:W0.heap.size≤W.heap.size) (hb:Below W.heap.size W w1):Zbc W0 bad w1:=fun k hk hn=>(hb.block k (by omega)).trans (h k hk hn)
theorem Zbc.alloc {W0 W:World} {bad:Option Nat} (h:Zbc W0 bad W) (hs:W0.heap.size≤W.heap.size) (o:Obj):Zbc W0 bad (W.alloc o):=h.below hs ((brf_).alloc nlr_ o)
theorem Zbc.grown {W0 W w1:World} {bad:Option Nat} (h:Zbc W0 bad W) (hs:W0.heap.size≤W.heap.size) (hg:W.grownBy w1 bad):Zbc W0 bad w1:=fun k hk hn=>(hg.block k (by omega) hn).trans (h k hk hn)
theorem Zbc.cell {W0 w:World} {bad:Option Nat} (h:Zbc W0 bad w) {g:Nat} {cs:Array Value} {t:TypeId} {fr:Nat×Nat} (hN:W0.heap[g]? = some (.cells cs t fr)) (hb:some g≠bad) {i:Nat} {u:Value} (hc:cs[i]? = some u):w.cell? ⟨g,i,none⟩=some u :=
 Zag ((h g (Zao hN) hb).trans hN) hc
theorem NodR.skip {W w1:World} {S T:Nat→Prop} {x:Nod} {f:Nat→Nat} {u1 u2 u3 u4 u5 u6 u7:Value} (h:NodR W S x f u1 u2 u3 u4 u5 u6 u7) (hm:∀ k,S k→k<W.heap.size→w1.heap[k]? = W.heap[k]?) (hT:∀ k,S k→k<W.heap.size→T k):NodR w1 T x f u1 u2 u3 u4 u5 u6 u7 :=
 ⟨Zae (Zcd (Zaf h.r1) (fun k hk=>hm k hk.1.1 hk.2)) (fun k hk=>⟨hT k hk.1.1 hk.2,hk.1.2⟩),Zae (Zcd (Zaf h.r2) (fun k hk=>hm k hk.1.1 hk.2)) (fun k hk=>⟨hT k hk.1.1 hk.2,hk.1.2⟩),Zae (Zcd (Zaf h.r3) (fun k hk=>hm k hk.1.1 hk.2)) (fun k hk=>⟨hT k hk.1.1 hk.2,hk.1.2⟩),Zae (Zcd (Zaf h.r4) (fun k hk=>hm k hk.1.1 hk.2)) (fun k hk=>⟨hT k hk.1.1 hk.2,hk.1.2⟩),Zae (Zcd (Zaf h.r5) (fun k hk=>hm k hk.1.1 hk.2)) (fun k hk=>⟨hT k hk.1.1 hk.2,hk.1.2⟩),Zae (Zcd (Zaf h.r6) (fun k hk=>hm k hk.1.1 hk.2)) (fun k hk=>⟨hT k hk.1.1 hk.2,hk.1.2⟩),Zae (Zcd (Zaf h.r7) (fun k hk=>hm k hk.1.1 hk.2)) (fun k hk=>⟨hT k hk.1.1 hk.2,hk.1.2⟩)⟩
theorem Zba {α:Type} {fs:List (Fd α)} {e:TypeId} {w:World} {S:Nat→Prop} {v:Value} {xs:List α} (h:Rw fs e w S v xs):∃ B n d,v=.slice B n d:=by
 obtain ⟨B,d,h,-,-⟩:=Zbl h
 exact ⟨B,_,d,h⟩
def Yaf (ops:Array Oper) (n m:Nat):Bool :=
 Zlr .any ops (upB n m) (upB n (m+1)) m&&Zlr .any ops (upB n (m+1)) (upB n (m+2)) (m+1)&&anyB .any ops (upB n (m+2)) (upB n (m+3)) (m+2)&&Zlr .any ops (upB n (m+3)) (upB n (m+4)) (m+3)&&(Region.ready .any ops (upB n (m+4))==[])
theorem Zbn {ops:Array Oper} {o:Oper} {a:Array Value} (h:o.guard=none):Region.wanted o (yielded ops a)=true:=by simp [Region.wanted,h]
theorem Zcl {α:Type} (fs:List (Fd α)) {P:Program} {ops:Array Oper} {Q:Exit→Act→World→Prop} {w0 W0 W:World} {a:Act} {ob oa og os:Oper} (n m tb tc td te tg t5:Nat) (L e T:TypeId) (fld off N:Nat) (g:Nat) {u z:Value} {bytes:Nat} {p:α} {xs:List α} {cs:List Value} (St Tt:Nat→Prop)
  (hi:ops[m]? = some ob∧ops[m+1]? = some oa∧ops[m+2]? = some og∧ops[m+3]? = some os) (hr:Yaf ops n m=true)
  (hb:ob.op=.buildSlice L 1 #[(0,.tmp tc)]∧ob.dst=some td∧ob.guard=none)
  (ha:oa.op=.call { callee:=.builtin .append,args:=#[.tmp tb,.tmp td],argTypes:=#[L,L] }∧oa.dst=some te∧oa.guard=none)
  (hg:og.op=.fieldAddr T (.tmp t5) fld∧og.dst=some tg∧og.guard=none)
  (hs:os.op=.store L (.tmp tg) (.tmp te)∧os.dst=none∧os.guard=none)
  (hsz:a.tmps.size=N) (hlt:tb<td∧tc<td∧td<te∧te<tg∧t5<td∧tg<N)
  (e5:a.eval (.tmp t5)=.pointer (some ⟨g,0,none⟩)) (eb:a.eval (.tmp tb)=u)
  (hbs:∀ w',(Instr.buildSlice L 1 #[(0,a.eval (.tmp tc))]).run P w'=.ok (.slice (some ⟨w'.heap.size,0,none⟩) 1 1) (w'.alloc (.cells cs.toArray e)))
  (hfa:∀ w',(Instr.fieldAt T (.pointer (some ⟨g,0,none⟩)) fld).run P w'=.ok (.pointer (some ⟨g,off,none⟩)) w')
  (ht:P.underlying L=some (.slice e)) (hinfo:(P.info? e).map (fun i=>(i.zero,i.size,i.bytes))=some (some z,fs.length,bytes)) (hz:z.cells.size=fs.length) (hs0:0<fs.length) (hb0:0<bytes)
  (hLz:∀ w:World,(sizeOf L).run P w=.ok 1 w) (hp:Own fs W Tt p cs) (HO:Rw fs e W (fun k=>St k∧¬Tt k) u xs) (hT:∀ k,Tt k→St k) (hS:∀ k,St k→w0.heap.size≤k) (hfresh:∀ k,W.heap.size≤k→St k)
  (HB:Below w0.heap.size w0 W) (hl:(xs.length+1)*bytes≤140737488355328)
  (hk:Zbc W0 u.ownBlock W) (hw:W0.heap.size≤W.heap.size) {cur:Array Value} {tt:TypeId} (hN:W0.heap[g]? = some (.cells cur tt (0,0))) (hof:off<cur.size) (hgu:some g≠u.ownBlock)
  (hQ:∀ c (a:Act) w d v,Q (.panic c) (a.put d v) w→Q (.panic c) a w)
  (h:∀ B L9 d w2 v0 v2,L9=xs.length+1→Rw fs e w2 St (.slice B L9 d) (xs++[p])→Below w0.heap.size w0 w2→W.grownBy w2 u.ownBlock→Zbc W0 u.ownBlock w2→((Value.slice B L9 d).ownBlock=u.ownBlock∨∃ b,(Value.slice B L9 d).ownBlock=some b∧W.heap.size≤b)→Q .normal (((a.put (some td) v0).put (some te) (.slice B L9 d)).put (some tg) v2) (w2.setCell ⟨g,off,none⟩ (.slice B L9 d))) :
  Zbf P .any ops Q (Zbc W0 u.ownBlock) [m+3] 4 (upB n m) a W:=by
 obtain ⟨i0,i1,i2,i3⟩:=hi
 obtain ⟨b0,b1,b2⟩:=hb
 obtain ⟨a0,a1,a2⟩:=ha
 obtain ⟨g0,g1,g2⟩:=hg
 obtain ⟨s0,s1,s2⟩:=hs
 simp only [Yaf,Bool.and_eq_true] at hr
 obtain ⟨⟨⟨⟨r0,r1⟩,r2⟩,r3⟩,r4⟩:=hr
 refine one_ (upB n (m+1)) i0 b1 r0 (by simp) (fun K hK=>?_)
 have hrun:(execOp a.eval ob).run P W=.ok (.value (.slice (some ⟨W.heap.size,0,none⟩) 1 1)) (W.alloc (.cells cs.toArray e)):=by
  unfold execOp
  have:=hbs W
  simp [b0,this]
 refine Zvl (Zbn b2) b1 hrun ?_
 refine hK.out _ _ (hk.alloc hw _) (fun _=>?_)
 clear hK K
 rcases oa with ⟨_,_,_,_,_,_⟩
 dsimp only at a0 a1 a2
 subst a0 a1 a2
 refine one_ (upB n (m+2)) i1 rfl r1 (by simp) (fun K hK=>?_)
 refine Zru fs (w0:=w0) (Zbn rfl) (.tmp tb) (.tmp td) L e z bytes rfl ht hinfo hz hs0 hb0 u xs p cs St Tt (by rw [Zaq (by omega)];exact eb) (Zco (by omega)) hp HO hT hS hfresh HB hl ?_
 intro v1 w2 hR HB2 hgr hat
 obtain ⟨B,d,rfl,-,-⟩:=Zbl hR
 rw [List.length_append,List.length_singleton] at *
 refine hK.out _ _ (hk.grown hw hgr) (fun hk2=>?_)
 clear hK K
 refine Zap (v:=.pointer (some ⟨g,off,none⟩)) (upB n (m+3)) i2 g1 r2 (fun c a w h=>hQ c a w _ _ h) (Or.inl ⟨Zbn g2,fun w'=>?_⟩) rfl ?_
 ·unfold execOp
  have:=hfa w'
  rw [g0]
  simp [Zaq (show te≠t5 by omega),Zaq (show td≠t5 by omega),e5,this]
 refine Znl (upB n (m+4)) i3 s1 r3 (by simp) (fun K hK=>?_)
 have N2:w2.heap[g]? = some (.cells cur tt (0,0)):=(hk2 g (Zao hN) hgu).trans hN
 have hs9:w2.cell? ⟨g,off,none⟩=some (cur[off]'hof):=Zag N2 (Array.getElem?_eq_getElem hof)
 have hf9:=Zad N2 off
 have E1:(((a.put (some td) (.slice (some ⟨W.heap.size,0,none⟩) 1 1)).put (some te) (.slice B (xs.length+1) d)).put (some tg) (.pointer (some ⟨g,off,none⟩))).eval (.tmp tg)=.pointer (some ⟨g,off,none⟩):=Zco (by rw [Zcb,Zcb];omega)
 have E2:(((a.put (some td) (.slice (some ⟨W.heap.size,0,none⟩) 1 1)).put (some te) (.slice B (xs.length+1) d)).put (some tg) (.pointer (some ⟨g,off,none⟩))).eval (.tmp te)=.slice B (xs.length+1) d:=by
  rw [Zaq (by omega)]
  exact Zco (by rw [Zcb];omega)
 refine Zyc (w1:=w2.setCell ⟨g,off,none⟩ (.slice B (xs.length+1) d)) (Zbn s2) s1 ?_ ?_
 ·unfold execOp
  rw [s0]
  have hLw:=hLz w2
  simp only [E1,E2]
  go_simp
 refine hK.out _ _ ?_
 exact Zgw r4 (h B _ d w2 _ _ rfl hR HB2 hgr hk2 hat)
theorem Zcf {P:Program} {id:Nat} {ops:Array Oper} {Q:Exit→Act→World→Prop} {a:Act} {w:World} (n:Nat) (bad:Option Nat) (ds:List Nat) (hm:P.follows .mixedOrders=true) (hn:ops.size=n) (hl:Array.replicate n false=upB n 0)
  (h:∀ Wd,Below w.heap.size w Wd→Wd.heap.size=w.heap.size→Zbf P .any ops Q (Zbc Wd bad) ds n (upB n 0) a Wd):(Code.region id ops true).wp P Q a w :=
 Zfm (S:=Zbc w.drew bad) (ds:=ds) (upB n 0) hm hn hl (Zbc.refl _ _) (fun _=>h w.drew (Zat (brf_)) rfl)
def Yag (ops:Array Oper) (n m:Nat) (ds:List Nat):Bool:=anyB .any ops (upB n m) (upB n (m+1)) m&&Zwp .any ops ds (upB n (m+1)) (upB n (m+2)) (m+1)
theorem head2 {P:Program} {ops:Array Oper} {Q:Exit→Act→World→Prop} {S:World→Prop} {ds:List Nat} {fuel:Nat} {W:World} {a:Act} {oa ol:Oper} (n m ta tb t5:Nat) (L T:TypeId) (fld off:Nat) (g:Nat) {u:Value}
  (hi:ops[m]? = some oa∧ops[m+1]? = some ol) (hr:Yag ops n m ds=true)
  (ha:oa.op=.fieldAddr T (.tmp t5) fld∧oa.dst=some ta∧oa.guard=none) (hl:ol.op=.load L (.tmp ta)∧ol.dst=some tb∧ol.guard=none)
  (e5:a.eval (.tmp t5)=.pointer (some ⟨g,0,none⟩)) (hsz:ta<a.tmps.size)
  (hfa:∀ w',(Instr.fieldAt T (.pointer (some ⟨g,0,none⟩)) fld).run P w'=.ok (.pointer (some ⟨g,off,none⟩)) w')
  (hld:∀ w',w'.cell? ⟨g,off,none⟩=some u→(Instr.loadAt L (.pointer (some ⟨g,off,none⟩))).run P w'=.ok u w')
  (hS:∀ w',S w'→w'.cell? ⟨g,off,none⟩=some u) (hSW:S W) (hQ:∀ c (a:Act) w d v,Q (.panic c) (a.put d v) w→Q (.panic c) a w)
  (h:Zbf P .any ops Q S ds fuel (upB n (m+2)) ((a.put (some ta) (.pointer (some ⟨g,off,none⟩))).put (some tb) u) W):Zbf P .any ops Q S ds (fuel+2) (upB n m) a W:=by
 obtain ⟨i0,i1⟩:=hi
 obtain ⟨a0,a1,a2⟩:=ha
 obtain ⟨l0,l1,l2⟩:=hl
 simp only [Yag,Bool.and_eq_true] at hr
 refine Zap (v:=.pointer (some ⟨g,off,none⟩)) (upB n (m+1)) i0 a1 hr.1 (fun c a w h=>hQ c a w _ _ h) (Or.inl ⟨Zbn a2,fun w'=>?_⟩) rfl ?_
 ·unfold execOp
  have:=hfa w'
  rw [a0]
  simp [e5,this]
 refine Zbz (v:=u) (upB n (m+2)) i1 l1 hr.2 (fun c a w h=>hQ c a w _ _ h) (Or.inl ⟨Zbn l2,fun w' hw'=>?_⟩) hSW rfl h
 unfold execOp
 have:=hld w' (hS w' hw')
 rw [l0]
 simp only [Zco hsz]
 simp [this]
theorem head2g {P:Program} {ops:Array Oper} {Q:Exit→Act→World→Prop} {S:World→Prop} {ds:List Nat} {fuel:Nat} {W:World} {a:Act} {oa ol:Oper} (l l1 l2:Array Bool) (i j ta tb t5:Nat) (L T:TypeId) (fld off:Nat) (g:Nat) {u:Value}
  (hi:ops[i]? = some oa∧ops[j]? = some ol) (hr:(anyB .any ops l l1 i&&Zwp .any ops ds l1 l2 j)=true)
  (ha:oa.op=.fieldAddr T (.tmp t5) fld∧oa.dst=some ta∧oa.guard=none) (hl:ol.op=.load L (.tmp ta)∧ol.dst=some tb∧ol.guard=none)
  (e5:a.eval (.tmp t5)=.pointer (some ⟨g,0,none⟩)) (hsz:ta<a.tmps.size)
  (hfa:∀ w',(Instr.fieldAt T (.pointer (some ⟨g,0,none⟩)) fld).run P w'=.ok (.pointer (some ⟨g,off,none⟩)) w')
  (hld:∀ w',S w'→(Instr.loadAt L (.pointer (some ⟨g,off,none⟩))).run P w'=.ok u w')
  (hSW:S W) (hQ:∀ c (a:Act) w d v,Q (.panic c) (a.put d v) w→Q (.panic c) a w)
  (h:Zbf P .any ops Q S ds fuel l2 ((a.put (some ta) (.pointer (some ⟨g,off,none⟩))).put (some tb) u) W):Zbf P .any ops Q S ds (fuel+2) l a W:=by
 obtain ⟨i0,i1⟩:=hi
 obtain ⟨a0,a1,a2⟩:=ha
 obtain ⟨l0,l1',l2'⟩:=hl
 simp only [Bool.and_eq_true] at hr
 refine Zap (v:=.pointer (some ⟨g,off,none⟩)) l1 i0 a1 hr.1 (fun c a w h=>hQ c a w _ _ h) (Or.inl ⟨Zbn a2,fun w'=>?_⟩) rfl ?_
 ·unfold execOp
  have:=hfa w'
  rw [a0]
  simp [e5,this]
 refine Zbz (v:=u) l2 i1 l1' hr.2 (fun c a w h=>hQ c a w _ _ h) (Or.inl ⟨Zbn l2',fun w' hw'=>?_⟩) hSW rfl h
 unfold execOp
 have:=hld w' hw'
 rw [l0]
 simp only [Zco hsz]
 simp [this]
theorem Zdt {P:Program} {ops:Array Oper} {Q:Exit→Act→World→Prop} {ds:List Nat} {fuel:Nat} {W0 W:World} {bad:Option Nat} {a:Act} {oc:Oper} (n m tc:Nat) (C:Value→World→Prop) {f:FuncId} {fn:Func} {as_:Array Operand} {ts:Array TypeId}
  (hi:ops[m]? = some oc) (hd:m ∉ ds) (hr:Zlr .any ops (upB n m) (upB n (m+1)) m=true) (hN:oc.dst=some tc) (hg:oc.guard=none) (hop:oc.op=.call { callee:=.value (.func f),args:=as_,argTypes:=ts })
  (hf:P.funcs[f]? = some fn) (hname:(fn.name == "runtime.NumGoroutine")=false) (hb:fn.body.isSome=true) (args:Array Value) (hargs:as_.map a.eval=args)
  (hcon:Calls P f args W fun e w1=>(∃ v,e=.returned v∧C v w1)∧Below W.heap.size W w1) (hk:Zbc W0 bad W) (hw:W0.heap.size≤W.heap.size)
  (h:∀ v w1,C v w1→Below W.heap.size W w1→Zbc W0 bad w1→Zbf P .any ops Q (Zbc W0 bad) ds fuel (upB n (m+1)) (a.put (some tc) v) w1):Zbf P .any ops Q (Zbc W0 bad) ds (fuel+1) (upB n m) a W:=by
 refine one_ (upB n (m+1)) hi hN hr hd (fun K hK=>?_)
 refine Zfw hf hname hb args (Zbn hg) hN hop hargs ?_
 refine hcon.mono ?_
 rintro e w1 ⟨⟨v,rfl,hC⟩,hb1⟩
 refine ⟨v,rfl, ?_⟩
 exact hK.out _ _ (hk.below hw hb1) (fun hk1=>h v w1 hC hb1 hk1)
theorem Zfd {P:Program} {ops:Array Oper} {Q:Exit→Act→World→Prop} {ds:List Nat} {fuel:Nat} {W0 W:World} {bad:Option Nat} {a:Act} {oc:Oper} (l l1:Array Bool) (m tc:Nat) (C:Value→World→Prop) {f:FuncId} {fn:Func} {as_:Array Operand} {ts:Array TypeId}
  (hi:ops[m]? = some oc) (hd:m ∉ ds) (hr:Zlr .any ops l l1 m=true) (hN:oc.dst=some tc) (hg:oc.guard=none) (hop:oc.op=.call { callee:=.value (.func f),args:=as_,argTypes:=ts })
  (hf:P.funcs[f]? = some fn) (hname:(fn.name == "runtime.NumGoroutine")=false) (hb:fn.body.isSome=true) (args:Array Value) (hargs:as_.map a.eval=args)
  (hcon:Calls P f args W fun e w1=>(∃ v,e=.returned v∧C v w1)∧Below W.heap.size W w1) (hk:Zbc W0 bad W) (hw:W0.heap.size≤W.heap.size)
  (h:∀ v w1,C v w1→Below W.heap.size W w1→Zbc W0 bad w1→Zbf P .any ops Q (Zbc W0 bad) ds fuel l1 (a.put (some tc) v) w1):Zbf P .any ops Q (Zbc W0 bad) ds (fuel+1) l a W:=by
 refine one_ l1 hi hN hr hd (fun K hK=>?_)
 refine Zfw hf hname hb args (Zbn hg) hN hop hargs ?_
 refine hcon.mono ?_
 rintro e w1 ⟨⟨v,rfl,hC⟩,hb1⟩
 refine ⟨v,rfl, ?_⟩
 exact hK.out _ _ (hk.below hw hb1) (fun hk1=>h v w1 hC hb1 hk1)
theorem Zbc.at_ {W0 w:World} {bad:Option Nat} (h:Zbc W0 bad w) {A:Addr} {v:Value} (hc:W0.cell? A=some v) (hb:some A.block≠bad):w.cell? A=some v:=by
 have hl:=World.block_lt_of_cell? W0 A hc
 have:=h A.block hl hb
 unfold World.cell? at hc ⊢
 rw [this]
 exact hc
theorem idx4 {P:Program} {ops:Array Oper} {Q:Exit→Act→World→Prop} {S:World→Prop} {ds:List Nat} {fuel:Nat} {W:World} {a:Act} {o0 o1 o2 o3:Oper} (n m ti tx ta tv ts tj:Nat) (L T E:TypeId) (fld N:Nat) {vs vi v:Value} {A1 A2:Addr}
  (hi:ops[m]? = some o0∧ops[m+1]? = some o1∧ops[m+2]? = some o2∧ops[m+3]? = some o3)
  (hr:(anyB .any ops (upB n m) (upB n (m+1)) m&&anyB .any ops (upB n (m+1)) (upB n (m+2)) (m+1)&&anyB .any ops (upB n (m+2)) (upB n (m+3)) (m+2)&&Zwp .any ops ds (upB n (m+3)) (upB n (m+4)) (m+3))=true)
  (h0:o0.op=.move (.tmp tj)∧o0.dst=some ti∧o0.guard=none) (h1:o1.op=.indexAddr L (.tmp ts) (.tmp ti)∧o1.dst=some tx∧o1.guard=none) (h2:o2.op=.fieldAddr T (.tmp tx) fld∧o2.dst=some ta∧o2.guard=none) (h3:o3.op=.load E (.tmp ta)∧o3.dst=some tv∧o3.guard=none)
  (ej:a.eval (.tmp tj)=vi) (es:a.eval (.tmp ts)=vs) (hsz:a.tmps.size=N) (hlt:ts<ti∧ti<tx∧tx<ta∧ta<N)
  (hidx:∀ w',(Instr.indexAt L vs vi).run P w'=.ok (.pointer (some A1)) w') (hfa:∀ w',(Instr.fieldAt T (.pointer (some A1)) fld).run P w'=.ok (.pointer (some A2)) w') (hld:∀ w',S w'→(Instr.loadAt E (.pointer (some A2))).run P w'=.ok v w')
  (hSW:S W) (hQ:∀ c (a:Act) w d v,Q (.panic c) (a.put d v) w→Q (.panic c) a w)
  (h:Zbf P .any ops Q S ds fuel (upB n (m+4)) ((((a.put (some ti) vi).put (some tx) (.pointer (some A1))).put (some ta) (.pointer (some A2))).put (some tv) v) W):Zbf P .any ops Q S ds (fuel+4) (upB n m) a W:=by
 obtain ⟨i0,i1,i2,i3⟩:=hi
 obtain ⟨a0,a1,a2⟩:=h0
 obtain ⟨b0,b1,b2⟩:=h1
 obtain ⟨c0,c1,c2⟩:=h2
 obtain ⟨d0,d1,d2⟩:=h3
 simp only [Bool.and_eq_true] at hr
 obtain ⟨⟨⟨r0,r1⟩,r2⟩,r3⟩:=hr
 refine Zap (v:=vi) (upB n (m+1)) i0 a1 r0 (fun c a w h=>hQ c a w _ _ h) (Or.inl ⟨Zbn a2,fun w'=>?_⟩) rfl ?_
 ·unfold execOp
  rw [a0]
  simp [ej]
 refine Zap (v:=.pointer (some A1)) (upB n (m+2)) i1 b1 r1 (fun c a w h=>hQ c a w _ _ h) (Or.inl ⟨Zbn b2,fun w'=>?_⟩) rfl ?_
 ·unfold execOp
  rw [b0]
  have e1:(a.put (some ti) vi).eval (.tmp ti)=vi:=Zco (by omega)
  have e2:(a.put (some ti) vi).eval (.tmp ts)=vs:=by rw [Zaq (by omega)];exact es
  have:=hidx w'
  simp only [e1,e2]
  simp [this]
 refine Zap (v:=.pointer (some A2)) (upB n (m+3)) i2 c1 r2 (fun c a w h=>hQ c a w _ _ h) (Or.inl ⟨Zbn c2,fun w'=>?_⟩) rfl ?_
 ·unfold execOp
  rw [c0]
  have e1:((a.put (some ti) vi).put (some tx) (.pointer (some A1))).eval (.tmp tx)=.pointer (some A1):=Zco (by rw [Zcb];omega)
  have:=hfa w'
  simp only [e1]
  simp [this]
 refine Zbz (v:=v) (upB n (m+4)) i3 d1 r3 (fun c a w h=>hQ c a w _ _ h) (Or.inl ⟨Zbn d2,fun w' hw'=>?_⟩) hSW rfl h
 unfold execOp
 rw [d0]
 have e1:(((a.put (some ti) vi).put (some tx) (.pointer (some A1))).put (some ta) (.pointer (some A2))).eval (.tmp ta)=.pointer (some A2):=Zco (by rw [Zcb,Zcb];omega)
 have:=hld w' hw'
 simp only [e1]
 simp [this]
theorem mv1 {P:Program} {ops:Array Oper} {Q:Exit→Act→World→Prop} {S:World→Prop} {ds:List Nat} {fuel:Nat} {W:World} {a:Act} {o:Oper} (n m t s:Nat) {v:Value}
  (hi:ops[m]? = some o) (hr:anyB .any ops (upB n m) (upB n (m+1)) m=true) (ho:o.op=.move (.tmp s)∧o.dst=some t∧o.guard=none) (he:a.eval (.tmp s)=v)
  (hQ:∀ c (a:Act) w d v,Q (.panic c) (a.put d v) w→Q (.panic c) a w) (h:Zbf P .any ops Q S ds fuel (upB n (m+1)) (a.put (some t) v) W):Zbf P .any ops Q S ds (fuel+1) (upB n m) a W:=by
 obtain ⟨a0,a1,a2⟩:=ho
 refine Zap (v:=v) (upB n (m+1)) hi a1 hr (fun c a w h=>hQ c a w _ _ h) (Or.inl ⟨Zbn a2,fun w'=>?_⟩) rfl h
 unfold execOp
 rw [a0]
 simp [he]
theorem Zen {P:Program} {ops:Array Oper} {rest:List Oper} {o1 o2:Oper} {a:Act} {w:World} {Q:Exit→Act→World→Prop} (T:TypeId) (p q td:Nat) (g r:Nat) (cs old:Array Value) (t t':TypeId) (d:TypeDesc)
  (h1:o1.op=.load T (.tmp p)∧o1.dst=some td∧o1.guard=none) (h2:o2.op=.store T (.tmp q) (.tmp td)∧o2.dst=none∧o2.guard=none)
  (hp:a.eval (.tmp p)=.pointer (some ⟨g,0,none⟩)) (hq:a.eval (.tmp q)=.pointer (some ⟨r,0,none⟩)) (hn:td≠q) (hlt:td<a.tmps.size)
  (hg:w.heap[g]? = some (.cells cs t (0,0))) (hr:w.heap[r]? = some (.cells old t' (0,0))) (hu:P.underlying T=some d) (hd:(match d with | .struct _ | .array _ _=>true | _=>false)=true) (hi:(P.info? T).map (·.size)=some cs.size) (hold:old.size=cs.size) (hone:cs.all (·.oneCell')=true)
  (h:∀ w',w'.heap[r]? = some (.cells cs t' (0,0))→Kep (fun b=>b=r) w w'→wpList P ops Q rest (a.put (some td) (.agg cs)) w'):wpList P ops Q (o1::o2::rest) a w:=by
 obtain ⟨a1,a2,a3⟩:=h1
 obtain ⟨b1,b2,b3⟩:=h2
 refine wpList_load_row a3 T (.tmp p) a1 g hp t cs (0,0) d hg hu hd hi ?_
 rw [a2]
 refine wpList_store_row b3 T (.tmp q) (.tmp td) b1 r cs (by rw [Zaq hn];exact hq) (Zco hlt) t' old hr hi hold hone ?_
 rw [b2]
 exact h _ (setRow_heap w r old cs t' (0,0) hr) ⟨setRow_os _ _ _,setRow_tape _ _ _,setRow_output _ _ _,by simp,fun k _ hn=>setRow_other w r k cs hn⟩
end Go.Proofs.YtaeckoinpllpnaaGreat
