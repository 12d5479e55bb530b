/- Part 30 of the proof of its last text: this session's own texts, shortened and joined by a program of its own (wip/pack.py). -/
import Derived.Test.YtaeckoinpllpnaaGreatTaa
import Derived.Test.YtaeckoinpllpnaaGreatTbb
import Derived.Test.YtaeckoinpllpnaaGreatTbc
import Derived.Test.YtaeckoinpllpnaaGreatTav
import Derived.Test.YtaeckoinpllpnaaGreatTaw
set_option linter.unusedVariables false
set_option linter.unusedSimpArgs false
set_option maxHeartbeats 16000000
set_option maxRecDepth 100000
namespace Go.Proofs.YtaeckoinpllpnaaGreat
open Go.RowKit Go.Proofs.YtaeckoinpllpnaaGreatW.PrintWords Go.Proofs.YtaeckoinpllpnaaGreatW.PrintLast
theorem Ztx {α:Type} {fs:List (Fd α)} {e:TypeId} {w:World} {S:Nat→Prop} {v:Value} {xs:List α} (h:Rw fs e w S v xs) :
  ∃ (B:Option Addr) (d:Nat) (f:Nat→Nat),v=.slice B xs.length d∧∀ (j:Nat) (x:α),xs[j]? = some x→∃ (g:Nat) (cs:List Value),B=some ⟨g,0,none⟩∧g<w.heap.size∧S g∧cs.length=fs.length∧(∀ (i:Nat) (u:Value),cs[i]? = some u→w.cell? ⟨g,j*fs.length+i,none⟩=some u)∧Own fs w (fun k=>S k∧f k=j) x cs:=by
 have h9:=h
 obtain ⟨B,d,rfl,-,-⟩:=Zbl h9
 obtain ⟨inner,f,ho,h0,he⟩:=h
 refine ⟨B,d,f,rfl,fun j x hj=>?_⟩
 have hjl:=(List.getElem?_eq_some_iff.1 hj).1
 rcases ho.2 with ⟨hv,_⟩ | ⟨g',cap',cur,hv,_,hh,hnc,hcm,hcs,htk⟩
 ·injection hv with ha hn hc
  omega
 injection hv with ha hn hc
 subst ha
 have hib:∀ (q:Nat) (u:Value),inner[q]? = some u→cur[q]? = some u:=by
  intro q u hu
  rw [← htk,List.getElem?_take] at hu
  split at hu
  ·simpa using hu
  ·cases hu
 have hown:=he j x hj
 refine ⟨g',_,rfl,Zao hh,h0 g' rfl,Znn hown,fun i u hu=>?_,Zbx hown (fun k hk=>⟨hk.1.1,hk.2⟩)⟩
 have hi:i<fs.length:=by
  have:=(List.getElem?_eq_some_iff.1 hu).1
  rw [List.length_take] at this
  omega
 rw [Zud _ _ _ _ hi] at hu
 exact Zag hh (hib _ _ hu)
def Parts {α:Type} (fs:List (Fd α)) (w:World) (S:Nat→Prop) (L:Nat→Nat×Nat×Nat) (j q:Nat) (v:Value) (xs:List α):Prop :=
 ∃ (B:Option Addr) (d:Nat),v=.slice B xs.length d∧∀ (k:Nat) (x:α),xs[k]? = some x→∃ (g:Nat) (cs:List Value),B=some ⟨g,0,none⟩∧g<w.heap.size∧cs.length=fs.length∧(∀ (i:Nat) (u:Value),cs[i]? = some u→w.cell? ⟨g,k*fs.length+i,none⟩=some u)∧Own fs w (fun b=>S b∧L b=(j,q,k)) x cs
theorem Zty {α:Type} {fs:List (Fd α)} {w:World} {S T:Nat→Prop} {L:Nat→Nat×Nat×Nat} {j q:Nat} {v:Value} {xs:List α} {f:Nat→Nat} (h:∃ (B:Option Addr) (d:Nat),v=.slice B xs.length d∧∀ (j:Nat) (x:α),xs[j]? = some x→∃ (g:Nat) (cs:List Value),B=some ⟨g,0,none⟩∧g<w.heap.size∧T g∧cs.length=fs.length∧(∀ (i:Nat) (u:Value),cs[i]? = some u→w.cell? ⟨g,j*fs.length+i,none⟩=some u)∧Own fs w (fun k=>T k∧f k=j) x cs)
  (hT:∀ b k,T b→f b=k→S b∧L b=(j,q,k)):Parts fs w S L j q v xs:=by
 obtain ⟨B,d,rfl,hh⟩:=h
 refine ⟨B,d,rfl,fun k x hk=>?_⟩
 obtain ⟨g,cs,h1,h2,h3,h4,h5,h6⟩:=hh k x hk
 exact ⟨g,cs,h1,h2,h4,h5,Zbx h6 (fun b hb=>hT b k hb.1 hb.2)⟩
theorem Zte {e:TypeId} {w:World} {S:Nat→Prop} {v:Value} {xs:List Nod} (h:Rw kNod e w S v xs) :
  ∃ (B:Option Addr) (d:Nat) (L:Nat→Nat×Nat×Nat),v=.slice B xs.length d∧∀ (j:Nat) (x:Nod),xs[j]? = some x→∃ (g:Nat) (u1 u2 u3:Value),B=some ⟨g,0,none⟩∧g<w.heap.size∧w.cell? ⟨g,j*10,none⟩=some (.bool x.up)∧w.cell? ⟨g,j*10+3,none⟩=some u1∧w.cell? ⟨g,j*10+4,none⟩=some u2∧w.cell? ⟨g,j*10+5,none⟩=some u3∧Parts Zby w S L j 3 u1 x.cells∧Parts kBox w S L j 4 u2 x.out∧Parts kBox w S L j 5 u3 x.inn:=by
 obtain ⟨B,d,f,rfl,hh⟩:=Ztx h
 have H:∀ j:Nat,∃ F:(Nat→Nat)×(Nat→Nat)×(Nat→Nat)×(Nat→Nat),∀ x:Nod,xs[j]? = some x→∃ (g:Nat) (u1 u2 u3:Value),B=some ⟨g,0,none⟩∧g<w.heap.size∧w.cell? ⟨g,j*10,none⟩=some (.bool x.up)∧w.cell? ⟨g,j*10+3,none⟩=some u1∧w.cell? ⟨g,j*10+4,none⟩=some u2∧w.cell? ⟨g,j*10+5,none⟩=some u3∧∀ L:Nat→Nat×Nat×Nat,(∀ b,f b=j→L b=(j,F.1 b,if F.1 b=3 then F.2.1 b else if F.1 b=4 then F.2.2.1 b else F.2.2.2 b))→Parts Zby w S L j 3 u1 x.cells∧Parts kBox w S L j 4 u2 x.out∧Parts kBox w S L j 5 u3 x.inn:=by
  intro j
  cases hj:xs[j]? with
  | none=>exact ⟨(fun _=>0,fun _=>0,fun _=>0,fun _=>0),fun x hx=>by cases hx⟩
  | some z =>
   obtain ⟨g,cs,h1,h2,h3,h4,h5,h6⟩:=hh j z hj
   obtain ⟨u1,u2,u3,u4,u5,u6,u7,fj,rfl,r1,r2,r3,-,-,-,-⟩:=Zgc h6
   obtain ⟨B1,d1,g1,e1,p1⟩:=Ztx r1
   obtain ⟨B2,d2,g2,e2,p2⟩:=Ztx r2
   obtain ⟨B3,d3,g3,e3,p3⟩:=Ztx r3
   refine ⟨(fj,g1,g2,g3),fun x hx=>?_⟩
   cases hx
   refine ⟨g,u1,u2,u3,h1,h2,h5 0 _ rfl,h5 3 _ rfl,h5 4 _ rfl,h5 5 _ rfl,fun L hL=>⟨Zty ⟨B1,d1,e1,p1⟩ ?_,Zty ⟨B2,d2,e2,p2⟩ ?_,Zty ⟨B3,d3,e3,p3⟩ ?_⟩⟩
   ·rintro b k ⟨⟨q1,q2⟩,q3⟩ q4
    exact ⟨q1,by rw [hL b q2];simp only [q3];simp [q4]⟩
   ·rintro b k ⟨⟨q1,q2⟩,q3⟩ q4
    exact ⟨q1,by rw [hL b q2];simp only [q3];simp [q4]⟩
   ·rintro b k ⟨⟨q1,q2⟩,q3⟩ q4
    exact ⟨q1,by rw [hL b q2];simp only [q3];simp [q4]⟩
 obtain ⟨F,hF⟩:=Classical.axiomOfChoice H
 refine ⟨B,d,fun b=>(f b,(F (f b)).1 b,if (F (f b)).1 b=3 then (F (f b)).2.1 b else if (F (f b)).1 b=4 then (F (f b)).2.2.1 b else (F (f b)).2.2.2 b),rfl,fun j x hx=>?_⟩
 obtain ⟨g,u1,u2,u3,h1,h2,a0,a1,a2,a3,hp⟩:=hF j x hx
 have hp:=hp (fun b=>(f b,(F (f b)).1 b,if (F (f b)).1 b=3 then (F (f b)).2.1 b else if (F (f b)).1 b=4 then (F (f b)).2.2.1 b else (F (f b)).2.2.2 b)) (fun b hb=>by subst hb;rfl)
 exact ⟨g,u1,u2,u3,h1,h2,a0,a1,a2,a3,hp⟩
def pRwM {α:Type} (fs:List (Fd α)) (e:TypeId) (T:Nat→Nat→Prop) (k:Nat) (v:Value) (xs:List α):Pie:=fun w S=>Rw fs e w (fun b=>S b∧∀ j,k≤j→¬T j b) v xs
theorem Ztz {α:Type} (fs:List (Fd α)) (e:TypeId) (T:Nat→Nat→Prop) (k:Nat) (v:Value) (xs:List α):Pc (pRwM fs e T k v xs) :=
 ⟨fun hs h=>Zae h (fun b hb=>⟨hs b hb.1,hb.2⟩),fun h=>Zae (Zaf h) (fun b hb=>⟨⟨hb.1.1,hb.2⟩,hb.1.2⟩),fun hm h=>Zcd h (fun b hb=>hm b hb.1)⟩
def Zun (x:Pln):One:=⟨x,List.replicate x.nodes.toNat true,x.cells.map (fun _=>Zbt),x.ways.map (fun y=>Zbd y.depth),x.ways.map (fun y=>Zbd y.depth),List.replicate x.ways.length [],0,List.replicate x.cells.length []⟩
theorem Zrj {p:Prop} (h:p):Hid p:=h
theorem World.setCell_os' (w:World) (a:Addr) (v:Value):(w.setCell a v).os=w.os:=rfl
theorem World.setCell_tape' (w:World) (a:Addr) (v:Value):(w.setCell a v).tape=w.tape:=rfl
theorem World.setCell_output' (w:World) (a:Addr) (v:Value):(w.setCell a v).output=w.output:=rfl
abbrev onC (p1 p2 p3 p4 p5 p6 p7 sn up cl ou inn air:Value):Array Value:=#[p1,p2,p3,p4,p5,p6,p7,up,cl,ou,inn,air,.int .i64 0,sn]
structure OnK (w W:World) (S:Nat→Prop) (g:Nat) (f0:Nat→Nat) (T2 T3 T4:Nat→Nat→Prop):Prop where
 hw:Below w.heap.size w W
 hg:W.heap.size≤g
 hS:∀ k,W.heap.size≤k→k≠g→S k
 hSg:¬S g
 hSw:∀ k,S k→w.heap.size≤k
 t2:∀ k b,T2 k b→S b∧b<W.heap.size∧f0 b=2
 t3:∀ k b,T3 k b→S b∧b<W.heap.size∧f0 b=3
 t4:∀ k b,T4 k b→S b∧b<W.heap.size∧f0 b=4
 d2:∀ j k b,T2 k b→T2 j b→j=k
 d3:∀ j k b,T3 k b→T3 j b→j=k
 d4:∀ j k b,T4 k b→T4 j b→j=k
structure OnS (w W:World) (S:Nat→Prop) (g:Nat) (f0:Nat→Nat) (T2 T3 T4:Nat→Nat→Prop) (x:Pln) (p1 p2 p3 p4 p5 p6 p7 sn:Value) (ku kc ko ki ka:Nat) (up cl ou inn air:Value) (f:Nat→Nat) (wr:World):Prop where
 ng:wr.heap[g]? = some (.cells (onC p1 p2 p3 p4 p5 p6 p7 sn up cl ou inn air) 40 (0,0))
 hn:P8 wr S f (pOwn kPln x [p1,p2,p3,p4,p5,p6,p7]) (pRw Zgk 4 up (List.replicate ku true)) (pRwM Zby 103 T2 kc cl ((x.cells.map (fun _=>Zbt)).take kc)) (pRwM kBox 109 T3 ko ou ((x.ways.map (fun y=>Zbd y.depth)).take ko)) (pRwM kBox 109 T4 ki inn ((x.ways.map (fun y=>Zbd y.depth)).take ki)) (pRw Zdd 54 air (List.replicate ka [])) (pRw Zbv 117 sn (List.replicate x.cells.length [])) Zbw
 hb:Below W.heap.size W wr
 hB:Below w.heap.size w wr
 hf:∀ b,b<W.heap.size→f b=f0 b
 o1:∀ q,up.ownBlock=some q→W.heap.size≤q
 o2:∀ q,cl.ownBlock=some q→W.heap.size≤q
 o3:∀ q,ou.ownBlock=some q→W.heap.size≤q
 o4:∀ q,inn.ownBlock=some q→W.heap.size≤q
 o5:∀ q,air.ownBlock=some q→W.heap.size≤q
section
variable {w W:World} {S:Nat→Prop} {g:Nat} {f0:Nat→Nat} {T2 T3 T4:Nat→Nat→Prop} {x:Pln} {p1 p2 p3 p4 p5 p6 p7 sn:Value} {ku kc ko ki ka:Nat} {up cl ou inn air:Value} {f:Nat→Nat} {wr:World}
theorem OnS.below (h:OnS w W S g f0 T2 T3 T4 x p1 p2 p3 p4 p5 p6 p7 sn ku kc ko ki ka up cl ou inn air f wr) {w1:World} (hb:Below wr.heap.size wr w1):OnS w W S g f0 T2 T3 T4 x p1 p2 p3 p4 p5 p6 p7 sn ku kc ko ki ka up cl ou inn air f w1 :=
 ⟨Zab h.ng hb,h.hn.step (fun k _ hl=>hb.block k hl),h.hb.trans (hb.mono h.hb.size),h.hB.trans (hb.mono h.hB.size),h.hf,h.o1,h.o2,h.o3,h.o4,h.o5⟩
theorem OnS.g1 (hK:OnK w W S g f0 T2 T3 T4) (h:OnS w W S g f0 T2 T3 T4 x p1 p2 p3 p4 p5 p6 p7 sn ku kc ko ki ka up cl ou inn air f wr):some g≠up.ownBlock:=fun e=>hK.hSg ((fun z=>z.1.1) (Zca (show Rw _ _ _ _ _ _ from h.hn.r1) g e.symm))
theorem OnS.l1 (h:OnS w W S g f0 T2 T3 T4 x p1 p2 p3 p4 p5 p6 p7 sn ku kc ko ki ka up cl ou inn air f wr):∀ q,up.ownBlock=some q→f q=1:=fun q e=>(fun z=>z.1.2) (Zca (show Rw _ _ _ _ _ _ from h.hn.r1) q e)
theorem OnS.w1 (h:OnS w W S g f0 T2 T3 T4 x p1 p2 p3 p4 p5 p6 p7 sn ku kc ko ki ka up cl ou inn air f wr) {q:Nat} (hq:q<W.heap.size):some q≠up.ownBlock:=fun e=>by have:=h.o1 q e.symm;omega
theorem OnS.app1 (hK:OnK w W S g f0 T2 T3 T4) {Wd w1 w2:World} {v:Value} (h:OnS w W S g f0 T2 T3 T4 x p1 p2 p3 p4 p5 p6 p7 sn ku kc ko ki ka up cl ou inn air f Wd) (hb:Below Wd.heap.size Wd w1) (hgr:w1.grownBy w2 up.ownBlock) (HB:Below w.heap.size w w2)
  (hR:Rw Zgk 4 w2 (fun b=>S b∧((b<Wd.heap.size∧f b=1)∨Wd.heap.size≤b)) v ((List.replicate ku true)++[true])) (hat:v.ownBlock=up.ownBlock∨∃ b,v.ownBlock=some b∧w1.heap.size≤b) :
  OnS w W S g f0 T2 T3 T4 x p1 p2 p3 p4 p5 p6 p7 sn (ku+1) kc ko ki ka v cl ou inn air (lab Wd.heap.size f 1) (w2.setCell ⟨g,7,none⟩ v):=by
 have hgu:=h.g1 hK
 have hWd:=h.hb.size
 have hs1:=hb.size
 have hlg:=Zao h.ng
 have e:(List.replicate ku true)++[true] = (List.replicate (ku+1) true):=by rw [List.replicate_succ']
 rw [e] at hR
 have N2:w2.heap[g]? = some (.cells (onC p1 p2 p3 p4 p5 p6 p7 sn up cl ou inn air) 40 (0,0)):=(hgr.block g (by omega) hgu).trans ((hb.block g hlg).trans h.ng)
 have hset:∀ k,k≠g→(w2.setCell ⟨g,7,none⟩ v).heap[k]? = w2.heap[k]? := fun k hk=>Below.heap_setCell w2 ⟨g,7,none⟩ v k hk
 refine ⟨Zau N2 7 v,(h.hn.app1 hb hgr h.l1 (pcRw _ _ _ _) hR).step (fun k hk _=>hset k (fun e=>hK.hSg (e▸hk))),⟨?_, ?_, ?_, ?_,fun k hk=>?_⟩,Zak HB (Nat.le_trans hK.hw.size hK.hg),fun k hk=>(Zfq (by omega)).trans (h.hf k hk), ?_,h.o2,h.o3,h.o4,h.o5⟩
 ·exact (World.setCell_os' _ _ _).trans (hgr.os.trans (hb.os.trans h.hb.os))
 ·exact (World.setCell_tape' _ _ _).trans (hgr.tape.trans (hb.tape.trans h.hb.tape))
 ·exact (World.setCell_output' _ _ _).trans (hgr.output.trans (hb.output.trans h.hb.output))
 ·have:=hgr.size
  simp [World.setCell]
  omega
 ·refine (hset k (fun e=>?_)).trans ((hgr.block k (by omega) (h.w1 hk)).trans ((hb.block k (by omega)).trans (h.hb.block k hk)))
  have:=hK.hg
  omega
 ·intro q hq
  rcases hat with e | ⟨b,e,hb9⟩
  ·exact h.o1 q (e.symm.trans hq)
  ·rw [e] at hq
   cases hq
   omega
theorem OnS.ho1 (h:OnS w W S g f0 T2 T3 T4 x p1 p2 p3 p4 p5 p6 p7 sn ku kc ko ki ka up cl ou inn air f wr):Rw Zgk 4 wr (fun b=>(S b∧((b<wr.heap.size∧f b=1)∨wr.heap.size≤b))∧¬False) up (List.replicate ku true) :=
 Zae (Zaf (show Rw _ _ _ _ _ _ from h.hn.r1)) (fun b hb=>⟨⟨hb.1.1,Or.inl ⟨hb.2,hb.1.2⟩⟩,fun h=>h⟩)
theorem OnS.hfr1 (hK:OnK w W S g f0 T2 T3 T4) (h:OnS w W S g f0 T2 T3 T4 x p1 p2 p3 p4 p5 p6 p7 sn ku kc ko ki ka up cl ou inn air f wr) {w1:World} (hb:Below wr.heap.size wr w1):∀ b,w1.heap.size≤b→(S b∧((b<wr.heap.size∧f b=1)∨wr.heap.size≤b)):=by
 intro b hk
 have h1:=hb.size
 have h2:=Zao h.ng
 have h3:=h.hb.size
 exact ⟨hK.hS b (by omega) (by omega),Or.inr (by omega)⟩
theorem OnS.g2 (hK:OnK w W S g f0 T2 T3 T4) (h:OnS w W S g f0 T2 T3 T4 x p1 p2 p3 p4 p5 p6 p7 sn ku kc ko ki ka up cl ou inn air f wr):some g≠cl.ownBlock:=fun e=>hK.hSg ((fun z=>z.1.1.1) (Zca (show Rw _ _ _ _ _ _ from h.hn.r2) g e.symm))
theorem OnS.l2 (h:OnS w W S g f0 T2 T3 T4 x p1 p2 p3 p4 p5 p6 p7 sn ku kc ko ki ka up cl ou inn air f wr):∀ q,cl.ownBlock=some q→f q=2:=fun q e=>(fun z=>z.1.1.2) (Zca (show Rw _ _ _ _ _ _ from h.hn.r2) q e)
theorem OnS.b2 (h:OnS w W S g f0 T2 T3 T4 x p1 p2 p3 p4 p5 p6 p7 sn ku kc ko ki ka up cl ou inn air f wr):∀ q,cl.ownBlock=some q→q<wr.heap.size:=fun q e=>(Zca (Zaf (show Rw _ _ _ _ _ _ from h.hn.r2)) q e).2
theorem OnS.w2 (h:OnS w W S g f0 T2 T3 T4 x p1 p2 p3 p4 p5 p6 p7 sn ku kc ko ki ka up cl ou inn air f wr) {q:Nat} (hq:q<W.heap.size):some q≠cl.ownBlock:=fun e=>by have:=h.o2 q e.symm;omega
theorem OnS.app2 (hK:OnK w W S g f0 T2 T3 T4) {Wd w1 w2:World} {v:Value} (h:OnS w W S g f0 T2 T3 T4 x p1 p2 p3 p4 p5 p6 p7 sn ku kc ko ki ka up cl ou inn air f Wd) (hb:Below Wd.heap.size Wd w1) (hgr:w1.grownBy w2 cl.ownBlock) (HB:Below w.heap.size w w2) (hx:kc<x.cells.length)
  (hR:Rw Zby 103 w2 (fun b=>(S b∧((b<Wd.heap.size∧f b=2)∨Wd.heap.size≤b))∧∀ j,kc+1≤j→¬T2 j b) v (((x.cells.map (fun _=>Zbt)).take kc)++[Zbt])) (hat:v.ownBlock=cl.ownBlock∨∃ b,v.ownBlock=some b∧w1.heap.size≤b) :
  OnS w W S g f0 T2 T3 T4 x p1 p2 p3 p4 p5 p6 p7 sn ku (kc+1) ko ki ka up v ou inn air (lab Wd.heap.size f 2) (w2.setCell ⟨g,8,none⟩ v):=by
 have hgu:=h.g2 hK
 have hWd:=h.hb.size
 have hs1:=hb.size
 have hlg:=Zao h.ng
 have e:((x.cells.map (fun _=>Zbt)).take kc)++[Zbt] = ((x.cells.map (fun _=>Zbt)).take (kc+1)):=by rw [List.take_succ_eq_append_getElem (by simpa using hx)];simp
 rw [e] at hR
 have N2:w2.heap[g]? = some (.cells (onC p1 p2 p3 p4 p5 p6 p7 sn up cl ou inn air) 40 (0,0)):=(hgr.block g (by omega) hgu).trans ((hb.block g hlg).trans h.ng)
 have hset:∀ k,k≠g→(w2.setCell ⟨g,8,none⟩ v).heap[k]? = w2.heap[k]? := fun k hk=>Below.heap_setCell w2 ⟨g,8,none⟩ v k hk
 refine ⟨Zau N2 8 v,(h.hn.app2 hb hgr h.l2 (Ztz _ _ _ _ _ _) hR).step (fun k hk _=>hset k (fun e=>hK.hSg (e▸hk))),⟨?_, ?_, ?_, ?_,fun k hk=>?_⟩,Zak HB (Nat.le_trans hK.hw.size hK.hg),fun k hk=>(Zfq (by omega)).trans (h.hf k hk),h.o1, ?_,h.o3,h.o4,h.o5⟩
 ·exact (World.setCell_os' _ _ _).trans (hgr.os.trans (hb.os.trans h.hb.os))
 ·exact (World.setCell_tape' _ _ _).trans (hgr.tape.trans (hb.tape.trans h.hb.tape))
 ·exact (World.setCell_output' _ _ _).trans (hgr.output.trans (hb.output.trans h.hb.output))
 ·have:=hgr.size
  simp [World.setCell]
  omega
 ·refine (hset k (fun e=>?_)).trans ((hgr.block k (by omega) (h.w2 hk)).trans ((hb.block k (by omega)).trans (h.hb.block k hk)))
  have:=hK.hg
  omega
 ·intro q hq
  rcases hat with e | ⟨b,e,hb9⟩
  ·exact h.o2 q (e.symm.trans hq)
  ·rw [e] at hq
   cases hq
   omega
theorem OnS.ho2 (h:OnS w W S g f0 T2 T3 T4 x p1 p2 p3 p4 p5 p6 p7 sn ku kc ko ki ka up cl ou inn air f wr):Rw Zby 103 wr (fun b=>((S b∧((b<wr.heap.size∧f b=2)∨wr.heap.size≤b))∧∀ j,kc+1≤j→¬T2 j b)∧¬T2 kc b) cl ((x.cells.map (fun _=>Zbt)).take kc) :=
 Zae (Zaf (show Rw _ _ _ _ _ _ from h.hn.r2)) (fun b hb=>⟨⟨⟨hb.1.1.1,Or.inl ⟨hb.2,hb.1.1.2⟩⟩,fun j hj=>hb.1.2 j (by omega)⟩,hb.1.2 kc nlr_⟩)
theorem OnS.ht2 (hK:OnK w W S g f0 T2 T3 T4) (h:OnS w W S g f0 T2 T3 T4 x p1 p2 p3 p4 p5 p6 p7 sn ku kc ko ki ka up cl ou inn air f wr):∀ b,T2 kc b→(S b∧((b<wr.heap.size∧f b=2)∨wr.heap.size≤b))∧∀ j,kc+1≤j→¬T2 j b:=by
 intro b hb
 obtain ⟨h1,h2,h3⟩:=hK.t2 _ b hb
 refine ⟨⟨h1,Or.inl ⟨by have:=h.hb.size;omega,(h.hf b h2).trans h3⟩⟩,fun j hj hj2=>?_⟩
 have:=hK.d2 j kc b hb hj2
 omega
theorem OnS.hfr2 (hK:OnK w W S g f0 T2 T3 T4) (h:OnS w W S g f0 T2 T3 T4 x p1 p2 p3 p4 p5 p6 p7 sn ku kc ko ki ka up cl ou inn air f wr) {w1:World} (hb:Below wr.heap.size wr w1):∀ b,w1.heap.size≤b→(S b∧((b<wr.heap.size∧f b=2)∨wr.heap.size≤b))∧∀ j,kc+1≤j→¬T2 j b:=by
 intro b hk
 have h1:=hb.size
 have h2:=Zao h.ng
 have h3:=h.hb.size
 refine ⟨⟨hK.hS b (by omega) (by omega),Or.inr (by omega)⟩,fun j hj hj2=>?_⟩
 have:=(hK.t2 j b hj2).2.1
 omega
theorem OnS.g3 (hK:OnK w W S g f0 T2 T3 T4) (h:OnS w W S g f0 T2 T3 T4 x p1 p2 p3 p4 p5 p6 p7 sn ku kc ko ki ka up cl ou inn air f wr):some g≠ou.ownBlock:=fun e=>hK.hSg ((fun z=>z.1.1.1) (Zca (show Rw _ _ _ _ _ _ from h.hn.r3) g e.symm))
theorem OnS.l3 (h:OnS w W S g f0 T2 T3 T4 x p1 p2 p3 p4 p5 p6 p7 sn ku kc ko ki ka up cl ou inn air f wr):∀ q,ou.ownBlock=some q→f q=3:=fun q e=>(fun z=>z.1.1.2) (Zca (show Rw _ _ _ _ _ _ from h.hn.r3) q e)
theorem OnS.w3 (h:OnS w W S g f0 T2 T3 T4 x p1 p2 p3 p4 p5 p6 p7 sn ku kc ko ki ka up cl ou inn air f wr) {q:Nat} (hq:q<W.heap.size):some q≠ou.ownBlock:=fun e=>by have:=h.o3 q e.symm;omega
theorem OnS.app3 (hK:OnK w W S g f0 T2 T3 T4) {Wd w1 w2:World} {v:Value} (h:OnS w W S g f0 T2 T3 T4 x p1 p2 p3 p4 p5 p6 p7 sn ku kc ko ki ka up cl ou inn air f Wd) (hb:Below Wd.heap.size Wd w1) (hgr:w1.grownBy w2 ou.ownBlock) (HB:Below w.heap.size w w2) {y:Wy} (hx:x.ways[ko]? = some y)
  (hR:Rw kBox 109 w2 (fun b=>(S b∧((b<Wd.heap.size∧f b=3)∨Wd.heap.size≤b))∧∀ j,ko+1≤j→¬T3 j b) v (((x.ways.map (fun y=>Zbd y.depth)).take ko)++[(Zbd y.depth)])) (hat:v.ownBlock=ou.ownBlock∨∃ b,v.ownBlock=some b∧w1.heap.size≤b) :
  OnS w W S g f0 T2 T3 T4 x p1 p2 p3 p4 p5 p6 p7 sn ku kc (ko+1) ki ka up cl v inn air (lab Wd.heap.size f 3) (w2.setCell ⟨g,9,none⟩ v):=by
 have hgu:=h.g3 hK
 have hWd:=h.hb.size
 have hs1:=hb.size
 have hlg:=Zao h.ng
 have e:((x.ways.map (fun y=>Zbd y.depth)).take ko)++[(Zbd y.depth)] = ((x.ways.map (fun y=>Zbd y.depth)).take (ko+1)):=by obtain ⟨hl,he⟩:=List.getElem?_eq_some_iff.1 hx;rw [List.take_succ_eq_append_getElem (by simpa using hl)];simp [he]
 rw [e] at hR
 have N2:w2.heap[g]? = some (.cells (onC p1 p2 p3 p4 p5 p6 p7 sn up cl ou inn air) 40 (0,0)):=(hgr.block g (by omega) hgu).trans ((hb.block g hlg).trans h.ng)
 have hset:∀ k,k≠g→(w2.setCell ⟨g,9,none⟩ v).heap[k]? = w2.heap[k]? := fun k hk=>Below.heap_setCell w2 ⟨g,9,none⟩ v k hk
 refine ⟨Zau N2 9 v,(h.hn.app3 hb hgr h.l3 (Ztz _ _ _ _ _ _) hR).step (fun k hk _=>hset k (fun e=>hK.hSg (e▸hk))),⟨?_, ?_, ?_, ?_,fun k hk=>?_⟩,Zak HB (Nat.le_trans hK.hw.size hK.hg),fun k hk=>(Zfq (by omega)).trans (h.hf k hk),h.o1,h.o2, ?_,h.o4,h.o5⟩
 ·exact (World.setCell_os' _ _ _).trans (hgr.os.trans (hb.os.trans h.hb.os))
 ·exact (World.setCell_tape' _ _ _).trans (hgr.tape.trans (hb.tape.trans h.hb.tape))
 ·exact (World.setCell_output' _ _ _).trans (hgr.output.trans (hb.output.trans h.hb.output))
 ·have:=hgr.size
  simp [World.setCell]
  omega
 ·refine (hset k (fun e=>?_)).trans ((hgr.block k (by omega) (h.w3 hk)).trans ((hb.block k (by omega)).trans (h.hb.block k hk)))
  have:=hK.hg
  omega
 ·intro q hq
  rcases hat with e | ⟨b,e,hb9⟩
  ·exact h.o3 q (e.symm.trans hq)
  ·rw [e] at hq
   cases hq
   omega
theorem OnS.ho3 (h:OnS w W S g f0 T2 T3 T4 x p1 p2 p3 p4 p5 p6 p7 sn ku kc ko ki ka up cl ou inn air f wr):Rw kBox 109 wr (fun b=>((S b∧((b<wr.heap.size∧f b=3)∨wr.heap.size≤b))∧∀ j,ko+1≤j→¬T3 j b)∧¬T3 ko b) ou ((x.ways.map (fun y=>Zbd y.depth)).take ko) :=
 Zae (Zaf (show Rw _ _ _ _ _ _ from h.hn.r3)) (fun b hb=>⟨⟨⟨hb.1.1.1,Or.inl ⟨hb.2,hb.1.1.2⟩⟩,fun j hj=>hb.1.2 j (by omega)⟩,hb.1.2 ko nlr_⟩)
theorem OnS.ht3 (hK:OnK w W S g f0 T2 T3 T4) (h:OnS w W S g f0 T2 T3 T4 x p1 p2 p3 p4 p5 p6 p7 sn ku kc ko ki ka up cl ou inn air f wr):∀ b,T3 ko b→(S b∧((b<wr.heap.size∧f b=3)∨wr.heap.size≤b))∧∀ j,ko+1≤j→¬T3 j b:=by
 intro b hb
 obtain ⟨h1,h2,h3⟩:=hK.t3 _ b hb
 refine ⟨⟨h1,Or.inl ⟨by have:=h.hb.size;omega,(h.hf b h2).trans h3⟩⟩,fun j hj hj2=>?_⟩
 have:=hK.d3 j ko b hb hj2
 omega
theorem OnS.hfr3 (hK:OnK w W S g f0 T2 T3 T4) (h:OnS w W S g f0 T2 T3 T4 x p1 p2 p3 p4 p5 p6 p7 sn ku kc ko ki ka up cl ou inn air f wr) {w1:World} (hb:Below wr.heap.size wr w1):∀ b,w1.heap.size≤b→(S b∧((b<wr.heap.size∧f b=3)∨wr.heap.size≤b))∧∀ j,ko+1≤j→¬T3 j b:=by
 intro b hk
 have h1:=hb.size
 have h2:=Zao h.ng
 have h3:=h.hb.size
 refine ⟨⟨hK.hS b (by omega) (by omega),Or.inr (by omega)⟩,fun j hj hj2=>?_⟩
 have:=(hK.t3 j b hj2).2.1
 omega
theorem OnS.g4 (hK:OnK w W S g f0 T2 T3 T4) (h:OnS w W S g f0 T2 T3 T4 x p1 p2 p3 p4 p5 p6 p7 sn ku kc ko ki ka up cl ou inn air f wr):some g≠inn.ownBlock:=fun e=>hK.hSg ((fun z=>z.1.1.1) (Zca (show Rw _ _ _ _ _ _ from h.hn.r4) g e.symm))
theorem OnS.l4 (h:OnS w W S g f0 T2 T3 T4 x p1 p2 p3 p4 p5 p6 p7 sn ku kc ko ki ka up cl ou inn air f wr):∀ q,inn.ownBlock=some q→f q=4:=fun q e=>(fun z=>z.1.1.2) (Zca (show Rw _ _ _ _ _ _ from h.hn.r4) q e)
theorem OnS.w4 (h:OnS w W S g f0 T2 T3 T4 x p1 p2 p3 p4 p5 p6 p7 sn ku kc ko ki ka up cl ou inn air f wr) {q:Nat} (hq:q<W.heap.size):some q≠inn.ownBlock:=fun e=>by have:=h.o4 q e.symm;omega
theorem OnS.app4 (hK:OnK w W S g f0 T2 T3 T4) {Wd w1 w2:World} {v:Value} (h:OnS w W S g f0 T2 T3 T4 x p1 p2 p3 p4 p5 p6 p7 sn ku kc ko ki ka up cl ou inn air f Wd) (hb:Below Wd.heap.size Wd w1) (hgr:w1.grownBy w2 inn.ownBlock) (HB:Below w.heap.size w w2) {y:Wy} (hx:x.ways[ki]? = some y)
  (hR:Rw kBox 109 w2 (fun b=>(S b∧((b<Wd.heap.size∧f b=4)∨Wd.heap.size≤b))∧∀ j,ki+1≤j→¬T4 j b) v (((x.ways.map (fun y=>Zbd y.depth)).take ki)++[(Zbd y.depth)])) (hat:v.ownBlock=inn.ownBlock∨∃ b,v.ownBlock=some b∧w1.heap.size≤b) :
  OnS w W S g f0 T2 T3 T4 x p1 p2 p3 p4 p5 p6 p7 sn ku kc ko (ki+1) ka up cl ou v air (lab Wd.heap.size f 4) (w2.setCell ⟨g,10,none⟩ v):=by
 have hgu:=h.g4 hK
 have hWd:=h.hb.size
 have hs1:=hb.size
 have hlg:=Zao h.ng
 have e:((x.ways.map (fun y=>Zbd y.depth)).take ki)++[(Zbd y.depth)] = ((x.ways.map (fun y=>Zbd y.depth)).take (ki+1)):=by obtain ⟨hl,he⟩:=List.getElem?_eq_some_iff.1 hx;rw [List.take_succ_eq_append_getElem (by simpa using hl)];simp [he]
 rw [e] at hR
 have N2:w2.heap[g]? = some (.cells (onC p1 p2 p3 p4 p5 p6 p7 sn up cl ou inn air) 40 (0,0)):=(hgr.block g (by omega) hgu).trans ((hb.block g hlg).trans h.ng)
 have hset:∀ k,k≠g→(w2.setCell ⟨g,10,none⟩ v).heap[k]? = w2.heap[k]? := fun k hk=>Below.heap_setCell w2 ⟨g,10,none⟩ v k hk
 refine ⟨Zau N2 10 v,(h.hn.app4 hb hgr h.l4 (Ztz _ _ _ _ _ _) hR).step (fun k hk _=>hset k (fun e=>hK.hSg (e▸hk))),⟨?_, ?_, ?_, ?_,fun k hk=>?_⟩,Zak HB (Nat.le_trans hK.hw.size hK.hg),fun k hk=>(Zfq (by omega)).trans (h.hf k hk),h.o1,h.o2,h.o3, ?_,h.o5⟩
 ·exact (World.setCell_os' _ _ _).trans (hgr.os.trans (hb.os.trans h.hb.os))
 ·exact (World.setCell_tape' _ _ _).trans (hgr.tape.trans (hb.tape.trans h.hb.tape))
 ·exact (World.setCell_output' _ _ _).trans (hgr.output.trans (hb.output.trans h.hb.output))
 ·have:=hgr.size
  simp [World.setCell]
  omega
 ·refine (hset k (fun e=>?_)).trans ((hgr.block k (by omega) (h.w4 hk)).trans ((hb.block k (by omega)).trans (h.hb.block k hk)))
  have:=hK.hg
  omega
 ·intro q hq
  rcases hat with e | ⟨b,e,hb9⟩
  ·exact h.o4 q (e.symm.trans hq)
  ·rw [e] at hq
   cases hq
   omega
theorem OnS.ho4 (h:OnS w W S g f0 T2 T3 T4 x p1 p2 p3 p4 p5 p6 p7 sn ku kc ko ki ka up cl ou inn air f wr):Rw kBox 109 wr (fun b=>((S b∧((b<wr.heap.size∧f b=4)∨wr.heap.size≤b))∧∀ j,ki+1≤j→¬T4 j b)∧¬T4 ki b) inn ((x.ways.map (fun y=>Zbd y.depth)).take ki) :=
 Zae (Zaf (show Rw _ _ _ _ _ _ from h.hn.r4)) (fun b hb=>⟨⟨⟨hb.1.1.1,Or.inl ⟨hb.2,hb.1.1.2⟩⟩,fun j hj=>hb.1.2 j (by omega)⟩,hb.1.2 ki nlr_⟩)
theorem OnS.ht4 (hK:OnK w W S g f0 T2 T3 T4) (h:OnS w W S g f0 T2 T3 T4 x p1 p2 p3 p4 p5 p6 p7 sn ku kc ko ki ka up cl ou inn air f wr):∀ b,T4 ki b→(S b∧((b<wr.heap.size∧f b=4)∨wr.heap.size≤b))∧∀ j,ki+1≤j→¬T4 j b:=by
 intro b hb
 obtain ⟨h1,h2,h3⟩:=hK.t4 _ b hb
 refine ⟨⟨h1,Or.inl ⟨by have:=h.hb.size;omega,(h.hf b h2).trans h3⟩⟩,fun j hj hj2=>?_⟩
 have:=hK.d4 j ki b hb hj2
 omega
theorem OnS.hfr4 (hK:OnK w W S g f0 T2 T3 T4) (h:OnS w W S g f0 T2 T3 T4 x p1 p2 p3 p4 p5 p6 p7 sn ku kc ko ki ka up cl ou inn air f wr) {w1:World} (hb:Below wr.heap.size wr w1):∀ b,w1.heap.size≤b→(S b∧((b<wr.heap.size∧f b=4)∨wr.heap.size≤b))∧∀ j,ki+1≤j→¬T4 j b:=by
 intro b hk
 have h1:=hb.size
 have h2:=Zao h.ng
 have h3:=h.hb.size
 refine ⟨⟨hK.hS b (by omega) (by omega),Or.inr (by omega)⟩,fun j hj hj2=>?_⟩
 have:=(hK.t4 j b hj2).2.1
 omega
theorem OnS.g5 (hK:OnK w W S g f0 T2 T3 T4) (h:OnS w W S g f0 T2 T3 T4 x p1 p2 p3 p4 p5 p6 p7 sn ku kc ko ki ka up cl ou inn air f wr):some g≠air.ownBlock:=fun e=>hK.hSg ((fun z=>z.1.1) (Zca (show Rw _ _ _ _ _ _ from h.hn.r5) g e.symm))
theorem OnS.l5 (h:OnS w W S g f0 T2 T3 T4 x p1 p2 p3 p4 p5 p6 p7 sn ku kc ko ki ka up cl ou inn air f wr):∀ q,air.ownBlock=some q→f q=5:=fun q e=>(fun z=>z.1.2) (Zca (show Rw _ _ _ _ _ _ from h.hn.r5) q e)
theorem OnS.w5 (h:OnS w W S g f0 T2 T3 T4 x p1 p2 p3 p4 p5 p6 p7 sn ku kc ko ki ka up cl ou inn air f wr) {q:Nat} (hq:q<W.heap.size):some q≠air.ownBlock:=fun e=>by have:=h.o5 q e.symm;omega
theorem OnS.app5 (hK:OnK w W S g f0 T2 T3 T4) {Wd w1 w2:World} {v:Value} (h:OnS w W S g f0 T2 T3 T4 x p1 p2 p3 p4 p5 p6 p7 sn ku kc ko ki ka up cl ou inn air f Wd) (hb:Below Wd.heap.size Wd w1) (hgr:w1.grownBy w2 air.ownBlock) (HB:Below w.heap.size w w2)
  (hR:Rw Zdd 54 w2 (fun b=>S b∧((b<Wd.heap.size∧f b=5)∨Wd.heap.size≤b)) v ((List.replicate ka [])++[([]:List (List Int))])) (hat:v.ownBlock=air.ownBlock∨∃ b,v.ownBlock=some b∧w1.heap.size≤b) :
  OnS w W S g f0 T2 T3 T4 x p1 p2 p3 p4 p5 p6 p7 sn ku kc ko ki (ka+1) up cl ou inn v (lab Wd.heap.size f 5) (w2.setCell ⟨g,11,none⟩ v):=by
 have hgu:=h.g5 hK
 have hWd:=h.hb.size
 have hs1:=hb.size
 have hlg:=Zao h.ng
 have e:(List.replicate ka [])++[([]:List (List Int))] = (List.replicate (ka+1) ([]:List (List Int))):=by rw [List.replicate_succ']
 rw [e] at hR
 have N2:w2.heap[g]? = some (.cells (onC p1 p2 p3 p4 p5 p6 p7 sn up cl ou inn air) 40 (0,0)):=(hgr.block g (by omega) hgu).trans ((hb.block g hlg).trans h.ng)
 have hset:∀ k,k≠g→(w2.setCell ⟨g,11,none⟩ v).heap[k]? = w2.heap[k]? := fun k hk=>Below.heap_setCell w2 ⟨g,11,none⟩ v k hk
 refine ⟨Zau N2 11 v,(h.hn.app5 hb hgr h.l5 (pcRw _ _ _ _) hR).step (fun k hk _=>hset k (fun e=>hK.hSg (e▸hk))),⟨?_, ?_, ?_, ?_,fun k hk=>?_⟩,Zak HB (Nat.le_trans hK.hw.size hK.hg),fun k hk=>(Zfq (by omega)).trans (h.hf k hk),h.o1,h.o2,h.o3,h.o4, ?_⟩
 ·exact (World.setCell_os' _ _ _).trans (hgr.os.trans (hb.os.trans h.hb.os))
 ·exact (World.setCell_tape' _ _ _).trans (hgr.tape.trans (hb.tape.trans h.hb.tape))
 ·exact (World.setCell_output' _ _ _).trans (hgr.output.trans (hb.output.trans h.hb.output))
 ·have:=hgr.size
  simp [World.setCell]
  omega
 ·refine (hset k (fun e=>?_)).trans ((hgr.block k (by omega) (h.w5 hk)).trans ((hb.block k (by omega)).trans (h.hb.block k hk)))
  have:=hK.hg
  omega
 ·intro q hq
  rcases hat with e | ⟨b,e,hb9⟩
  ·exact h.o5 q (e.symm.trans hq)
  ·rw [e] at hq
   cases hq
   omega
theorem OnS.ho5 (h:OnS w W S g f0 T2 T3 T4 x p1 p2 p3 p4 p5 p6 p7 sn ku kc ko ki ka up cl ou inn air f wr):Rw Zdd 54 wr (fun b=>(S b∧((b<wr.heap.size∧f b=5)∨wr.heap.size≤b))∧¬False) air (List.replicate ka []) :=
 Zae (Zaf (show Rw _ _ _ _ _ _ from h.hn.r5)) (fun b hb=>⟨⟨hb.1.1,Or.inl ⟨hb.2,hb.1.2⟩⟩,fun h=>h⟩)
theorem OnS.hfr5 (hK:OnK w W S g f0 T2 T3 T4) (h:OnS w W S g f0 T2 T3 T4 x p1 p2 p3 p4 p5 p6 p7 sn ku kc ko ki ka up cl ou inn air f wr) {w1:World} (hb:Below wr.heap.size wr w1):∀ b,w1.heap.size≤b→(S b∧((b<wr.heap.size∧f b=5)∨wr.heap.size≤b)):=by
 intro b hk
 have h1:=hb.size
 have h2:=Zao h.ng
 have h3:=h.hb.size
 exact ⟨hK.hS b (by omega) (by omega),Or.inr (by omega)⟩
theorem OnS.ho5n (h:OnS w W S g f0 T2 T3 T4 x p1 p2 p3 p4 p5 p6 p7 sn ku kc ko ki ka up cl ou inn air f wr) {w1:World} (hb:Below wr.heap.size wr w1):Rw Zdd 54 w1 (fun b=>(S b∧((b<wr.heap.size∧f b=5)∨wr.heap.size≤b))∧¬b=wr.heap.size) air (List.replicate ka []) :=
 Zae (Zaj (Zaf h.ho5) hb) (fun b hb=>⟨hb.1.1,by have:=hb.2;omega⟩)
end
theorem Zig {α:Type} {fs:List (Fd α)} {W:World} {S:Nat→Prop} {L:Nat→Nat×Nat×Nat} {j q:Nat} {v:Value} {xs:List α} (h:Parts fs W S L j q v xs) {k n:Nat} {y:α} (hn:xs.length=n) (hk:xs[k]? = some y) :
  ∃ gc dc cs,v=.slice (some ⟨gc,0,none⟩) n dc∧gc<W.heap.size∧cs.length=fs.length∧(∀ (i:Nat) (u:Value),cs[i]? = some u→W.cell? ⟨gc,k*fs.length+i,none⟩=some u)∧Own fs W (fun b=>(S b∧b<W.heap.size)∧L b=(j,q,k)) y cs:=by
 subst hn
 obtain ⟨B,d,rfl,hh⟩:=h
 obtain ⟨gc,cs,rfl,h2,h4,h5,h6⟩:=hh k y hk
 exact ⟨gc,d,cs,rfl,h2,h4,h5,Zbx (Zcj h6) (fun b hb=>⟨⟨hb.1.1,hb.2⟩,hb.1.2⟩)⟩
theorem Zzd {w:World} {S:Nat→Prop} {x:One} {u1 u2 u3 u4 u5 u6 u7 u8 u9 u10:Value} (f:Nat→Nat) (h1:Rw kCel 107 w (fun k=>S k∧f k=3) u1 x.plan.cells) (h2:Rw kWy 112 w (fun k=>S k∧f k=4) u2 x.plan.ways) (h3:Rw kSlt 121 w (fun k=>S k∧f k=5) u3 x.plan.slots) (h4:Rw Zda 90 w (fun k=>S k∧f k=6) u4 x.plan.turns)
  (h5:Rw Zgk 4 w (fun k=>S k∧f k=7) u5 x.up) (h6:Rw Zby 103 w (fun k=>S k∧f k=8) u6 x.cells) (h7:Rw kBox 109 w (fun k=>S k∧f k=9) u7 x.out) (h8:Rw kBox 109 w (fun k=>S k∧f k=10) u8 x.inn) (h9:Rw Zdd 54 w (fun k=>S k∧f k=11) u9 x.air) (h10:Rw Zbv 117 w (fun k=>S k∧f k=13) u10 x.seen) :
  Own kOne w S x [.int .i64 x.plan.nodes,.int .i64 x.plan.secret,.int .i64 x.plan.fuel,u1,u2,u3,u4,u5,u6,u7,u8,u9,.int .i64 x.now,u10]:=⟨f,rfl,rfl,rfl,h1,h2,h3,h4,h5,h6,h7,h8,h9,rfl,h10,trivial⟩
theorem OnS.own {w W:World} {S:Nat→Prop} {g:Nat} {f0:Nat→Nat} {T2 T3 T4:Nat→Nat→Prop} {x:Pln} {p1 p2 p3 p4 p5 p6 p7 sn:Value} {n:Nat} {up cl ou inn air:Value} {f:Nat→Nat} {wr:World}
  (h:OnS w W S g f0 T2 T3 T4 x p1 p2 p3 p4 p5 p6 p7 sn n x.cells.length x.ways.length x.ways.length x.ways.length up cl ou inn air f wr) (hx:x.nodes=(n:Int)):Own kOne wr S (Zun x) [p1,p2,p3,p4,p5,p6,p7,up,cl,ou,inn,air,.int .i64 0,sn]:=by
 obtain ⟨v1,v2,v3,v4,fp,e,h1,h2,h3,h4⟩:=Zho (show Own kPln _ _ _ _ from h.hn.r0)
 injection e with e1 e
 injection e with e2 e
 injection e with e3 e
 injection e with e4 e
 injection e with e5 e
 injection e with e6 e
 injection e with e7 e
 subst e1 e2 e3 e4 e5 e6 e7
 have hnn:x.nodes.toNat=n:=by omega
 have r1:Rw Zgk 4 wr (fun b=>S b∧f b=1) up (List.replicate x.nodes.toNat true):=by rw [hnn];exact h.hn.r1
 have r2:Rw Zby 103 wr (fun b=>(S b∧f b=2)∧∀ j,x.cells.length≤j→¬T2 j b) cl (x.cells.map (fun _=>Zbt)):=by have:=(show Rw _ _ _ _ _ _ from h.hn.r2);rw [List.take_of_length_le (by simp)] at this;exact this
 have r3:Rw kBox 109 wr (fun b=>(S b∧f b=3)∧∀ j,x.ways.length≤j→¬T3 j b) ou (x.ways.map (fun y=>Zbd y.depth)):=by have:=(show Rw _ _ _ _ _ _ from h.hn.r3);rw [List.take_of_length_le (by simp)] at this;exact this
 have r4:Rw kBox 109 wr (fun b=>(S b∧f b=4)∧∀ j,x.ways.length≤j→¬T4 j b) inn (x.ways.map (fun y=>Zbd y.depth)):=by have:=(show Rw _ _ _ _ _ _ from h.hn.r4);rw [List.take_of_length_le (by simp)] at this;exact this
 refine Zzd (x:=Zun x) (fun b=>if f b=0 then fp b else if f b=6 then 13 else f b+6) ?_ ?_ ?_ ?_ ?_ ?_ ?_ ?_ ?_ ?_
 ·exact Zae h1 (fun b hb=>⟨hb.1.1,by rw [if_pos hb.1.2];exact hb.2⟩)
 ·exact Zae h2 (fun b hb=>⟨hb.1.1,by rw [if_pos hb.1.2];exact hb.2⟩)
 ·exact Zae h3 (fun b hb=>⟨hb.1.1,by rw [if_pos hb.1.2];exact hb.2⟩)
 ·exact Zae h4 (fun b hb=>⟨hb.1.1,by rw [if_pos hb.1.2];exact hb.2⟩)
 ·exact Zae r1 (fun b hb=>⟨hb.1,by rw [if_neg (by omega),if_neg (by omega)];omega⟩)
 ·exact Zae r2 (fun b hb=>⟨hb.1.1,by have:=hb.1.2;rw [if_neg (by omega),if_neg (by omega)];omega⟩)
 ·exact Zae r3 (fun b hb=>⟨hb.1.1,by have:=hb.1.2;rw [if_neg (by omega),if_neg (by omega)];omega⟩)
 ·exact Zae r4 (fun b hb=>⟨hb.1.1,by have:=hb.1.2;rw [if_neg (by omega),if_neg (by omega)];omega⟩)
 ·exact Zae (show Rw _ _ _ _ _ _ from h.hn.r5) (fun b hb=>⟨hb.1,by have:=hb.2;rw [if_neg (by omega),if_neg (by omega)];omega⟩)
 ·exact Zae (show Rw _ _ _ _ _ _ from h.hn.r6) (fun b hb=>⟨hb.1,by have:=hb.2;rw [if_neg (by omega),if_pos (by omega)]⟩)
theorem Zrk {w:World} {S:Nat→Prop} {x:Pln} {n:Nat} {cs:List Value} (hn:x.nodes=(n:Int)) (h:Own kWld w S (Zee x) cs) :
  ∃ (u1 u2 u3 u4 u5 u6 u7:Value) (f:Nat→Nat),cs=[.int .i64 x.nodes,.int .i64 x.secret,.int .i64 x.fuel,u1,u2,u3,u4,u5,.int .i64 0,u6,u7]∧Rw kCel 107 w (fun k=>S k∧f k=3) u1 x.cells∧Rw kWy 112 w (fun k=>S k∧f k=4) u2 x.ways∧Rw kSlt 121 w (fun k=>S k∧f k=5) u3 x.slots∧Rw Zda 90 w (fun k=>S k∧f k=6) u4 x.turns∧Rw kNod 98 w (fun k=>S k∧f k=7) u5 (List.replicate n (Zbm x 1 true))∧Rw Zck 101 w (fun k=>S k∧f k=9) u6 []∧Rw Zbv 117 w (fun k=>S k∧f k=10) u7 (List.replicate x.cells.length []):=by
 have e:x.nodes.toNat=n:=by omega
 obtain ⟨u1,u2,u3,u4,u5,u6,u7,f,rfl,h1,h2,h3,h4,h5,h6,h7⟩:=Zyo h
 simp only [Zee,e] at h1 h2 h3 h4 h5 h6 h7
 exact ⟨u1,u2,u3,u4,u5,u6,u7,f,rfl,h1,h2,h3,h4,h5,h6,h7⟩
end Go.Proofs.YtaeckoinpllpnaaGreat
