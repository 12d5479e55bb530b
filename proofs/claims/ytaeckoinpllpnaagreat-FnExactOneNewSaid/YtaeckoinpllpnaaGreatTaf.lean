/- Part 6 of the proof of its last text: this session's own texts, shortened and joined by a program of its own (wip/pack.py). -/
import Derived.Test.YtaeckoinpllpnaaGreatTaa
import Derived.Test.YtaeckoinpllpnaaGreatTae
import Derived.Test.YtaeckoinpllpnaaGreatTad
import Derived.Laws.CopyRow
import Derived.Deep.QuietTactic
import Derived.BigQuiet
set_option linter.unusedVariables false
set_option linter.unusedSimpArgs false
set_option maxHeartbeats 16000000
set_option maxRecDepth 100000
namespace Go.Proofs.YtaeckoinpllpnaaGreat
open Go.RowKit Go.Proofs.YtaeckoinpllpnaaGreatW.PrintWords Go.Proofs.YtaeckoinpllpnaaGreatW.PrintLast
def nzB (ops:Array Oper) (C:List Nat) (n1 n2 c1 c2:Nat) (L:Nat→Bool→Bool→Array Bool) (m:Nat) (b1 b2:Bool):Bool :=
 (m==C.length&&b1&&b2) ||
 ((Region.ready .any ops (L m b1 b2) != [])&&(Region.ready .any ops (L m b1 b2)).all fun i =>
  ((C[m]? == some i)&&((L m b1 b2).setIfInBounds i true==L (m+1) b1 b2)&&(c1 != m||b1)&&(c2 != m||b2)) ||
  (i==n1&&!b1&&((L m b1 b2).setIfInBounds i true==L m true b2)) ||
  (i==n2&&!b2&&((L m b1 b2).setIfInBounds i true==L m b1 true)))
def Yah (ops:Array Oper) (C:List Nat) (n1 n2 c1 c2:Nat) (L:Nat→Bool→Bool→Array Bool) (u1 u2:Bool):Bool :=
 (List.range (C.length+1)).all fun m=>nzB ops C n1 n2 c1 c2 L m true true&&(!u2||nzB ops C n1 n2 c1 c2 L m true false)&&(!u1||nzB ops C n1 n2 c1 c2 L m false true)&&(!(u1&&u2)||nzB ops C n1 n2 c1 c2 L m false false)
def Nu (lo t:Nat) (v:Nat→Value) (o:Obj) (g:Nat) (a:Act) (w:World) (T:Nat→Prop):Prop:=a.eval (.tmp t)=v g∧w.heap[g]? = some o∧¬T g∧(g<w.heap.size∧lo≤g)
theorem Zyp {ops:Array Oper} {C:List Nat} {n1 n2 c1 c2:Nat} {L:Nat→Bool→Bool→Array Bool} {u1 u2:Bool} (h:Yah ops C n1 n2 c1 c2 L u1 u2=true) {m:Nat} (hm:m≤C.length) (b1 b2:Bool) (h1:u1=false→b1=true) (h2:u2=false→b2=true):nzB ops C n1 n2 c1 c2 L m b1 b2=true:=by
 have:=List.all_eq_true.1 h m (List.mem_range.2 (by omega))
 simp only [Bool.and_eq_true,Bool.or_eq_true,Bool.not_eq_true'] at this
 obtain ⟨⟨⟨q1,q2⟩,q3⟩,q4⟩:=this
 cases b1 <;> cases b2
 ·refine q4.resolve_left (fun e=>?_)
  cases u1 <;> cases u2 <;> simp_all
 ·exact q3.resolve_left (fun e=>by simpa using h1 e)
 ·exact q2.resolve_left (fun e=>by simpa using h2 e)
 ·exact q1
def b2n (b:Bool):Nat:=if b then 0 else 1
theorem Zly {a:Act} {s t:Nat} {x y:Value} (h:s≠t):(a.put (some s) x).put (some t) y=(a.put (some t) y).put (some s) x:=by
 unfold Act.put
 simp only
 congr 1
 exact Array.setIfInBounds_comm x y h
def canC (a0:Act) (tc:Nat→Nat) (cv:Nat→Value):Nat→Act
 | 0=>a0
 | m+1=>(canC a0 tc cv m).put (some (tc m)) (cv m)
def Zqg (b:Bool) (a:Act) (t:Nat) (v:Value):Act:=if b=true then a.put (some t) v else a
def canB (a0:Act) (tc:Nat→Nat) (t1 t2:Nat) (v1 v2:Nat→Value) (m:Nat) (b1 b2:Bool) (cv:Nat→Value) (g1 g2:Nat):Act:=Zqg b2 (Zqg b1 (canC a0 tc cv m) t1 (v1 g1)) t2 (v2 g2)
theorem Ztb {a0:Act} {tc:Nat→Nat} {cv cv':Nat→Value}:∀ {m:Nat},(∀ j,j<m→cv j=cv' j)→canC a0 tc cv m=canC a0 tc cv' m
 | 0,_=>rfl
 | m+1,h=>by rw [canC,canC,Ztb (fun j hj=>h j (by omega)),h m (by omega)]
def updV (cv:Nat→Value) (m:Nat) (v:Value):Nat→Value:=fun j=>if j=m then v else cv j
theorem Zxo {a0:Act} {tc:Nat→Nat} {t1 t2:Nat} {v1 v2:Nat→Value} {m:Nat} {b1 b2:Bool} {cv:Nat→Value} {g1 g2:Nat} {v:Value} (h1:tc m≠t1) (h2:tc m≠t2) :
  (canB a0 tc t1 t2 v1 v2 m b1 b2 cv g1 g2).put (some (tc m)) v=canB a0 tc t1 t2 v1 v2 (m+1) b1 b2 (updV cv m v) g1 g2:=by
 have e:canC a0 tc (updV cv m v) m=canC a0 tc cv m:=Ztb (fun j hj=>if_neg (by omega))
 have e2:updV cv m v m=v:=if_pos rfl
 unfold canB
 rw [canC,e,e2]
 cases b1 <;> cases b2 <;> simp only [Zqg,if_true,if_false,Bool.false_eq_true]
 ·rw [Zly (fun e=>h2 e.symm)]
 ·rw [Zly (fun e=>h1 e.symm)]
 ·rw [Zly (fun e=>h2 e.symm),Zly (fun e=>h1 e.symm)]
theorem Zyq {a0:Act} {tc:Nat→Nat} {t1 t2:Nat} {v1 v2:Nat→Value} {m:Nat} {b2:Bool} {cv:Nat→Value} {g g1 g2:Nat} (h:t1≠t2) :
  (canB a0 tc t1 t2 v1 v2 m false b2 cv g1 g2).put (some t1) (v1 g)=canB a0 tc t1 t2 v1 v2 m true b2 cv g g2:=by
 unfold canB
 cases b2 <;> simp only [Zqg,if_true,if_false,Bool.false_eq_true]
 rw [Zly (fun e=>h e.symm)]
theorem Zyr {a0:Act} {tc:Nat→Nat} {t1 t2:Nat} {v1 v2:Nat→Value} {m:Nat} {b1:Bool} {cv:Nat→Value} {g g1 g2:Nat} :
  (canB a0 tc t1 t2 v1 v2 m b1 false cv g1 g2).put (some t2) (v2 g)=canB a0 tc t1 t2 v1 v2 m b1 true cv g1 g:=by
 unfold canB
 cases b1 <;> simp only [Zqg,if_true,if_false,Bool.false_eq_true]
theorem Zia {P:Program} {ops:Array Oper} {Q:Exit→Act→World→Prop} {S:World→Prop} {ds:List Nat} (N lo:Nat) (C:List Nat) (n1 n2 c1 c2 t1 t2:Nat) (tc:Nat→Nat) (v1 v2:Nat→Value) (o1 o2:Obj) (L:Nat→Bool→Bool→Array Bool) (fuel:Nat)
  (Φ:Nat→Act→World→(Nat→Prop)→Prop) (u1 u2:Bool) (hchk:Yah ops C n1 n2 c1 c2 L u1 u2=true)
  (hsz:∀ m a w T,Φ m a w T→a.tmps.size=N) (ht:t1<N∧t2<N∧t1≠t2∧∀ m,tc m≠t1∧tc m≠t2)
  (hlo:∀ m a w T,Φ m a w T→lo≤w.heap.size) (hS:∀ m a w T,Φ m a w T→S w) (a0:Act)
  (hst1:∀ m a w T,Φ m a w T→(∀ k,T k→k<w.heap.size)→Φ m (a.put (some t1) (v1 w.heap.size)) (w.alloc o1) T)
  (hst2:∀ m a w T,Φ m a w T→(∀ k,T k→k<w.heap.size)→Φ m (a.put (some t2) (v2 w.heap.size)) (w.alloc o2) T)
  (hn1:u1=true→∀ m a w T,Φ m a w T→∃ o,ops[n1]? = some o∧o.dst=some t1∧o.guard=none∧(execOp a.eval o).run P w=.ok (.value (v1 w.heap.size)) (w.alloc o1))
  (hn2:u2=true→∀ m a w T,Φ m a w T→∃ o,ops[n2]? = some o∧o.dst=some t2∧o.guard=none∧(execOp a.eval o).run P w=.ok (.value (v2 w.heap.size)) (w.alloc o2))
  (hc:∀ m i,C[m]? = some i→∀ a w T g1 g2,Φ m a w T→(∀ k,T k→k<w.heap.size)→(c1=m→Nu lo t1 v1 o1 g1 a w T)→(c2=m→Nu lo t2 v2 o2 g2 a w T) →
   ∃ o,ops[i]? = some o∧o.dst=some (tc m)∧o.guard=none∧∀ K:Act→World→Prop,(∀ v w' T',Φ (m+1) (a.put (some (tc m)) v) w' T'→(∀ k,T' k→k<w'.heap.size)→w.heap.size≤w'.heap.size→(∀ k,T' k→T k∨w.heap.size≤k∨(c1=m∧k=g1)∨(c2=m∧k=g2))→(∀ k,k<w.heap.size→¬T k→¬(c1=m∧k=g1)→¬(c2=m∧k=g2)→w'.heap[k]? = w.heap[k]?)→K (a.put (some (tc m)) v) w') →
    if Region.wanted o (yielded ops a.tmps)=true then Oper.wp P o a w K Q else K (a.put o.dst undef) w)
  (hend:∀ (cv:Nat→Value) (g1 g2:Nat) a w T,a=canB a0 tc t1 t2 v1 v2 C.length u1 u2 cv g1 g2→Φ C.length a w T→(∀ k,T k→k<w.heap.size)→(u1=true→C.length≤c1→Nu lo t1 v1 o1 g1 a w T)→(u2=true→C.length≤c2→Nu lo t2 v2 o2 g2 a w T)→(u1=true→u2=true→C.length≤c1→C.length≤c2→g1≠g2)→Zbf P .any ops Q S ds fuel (L C.length true true) a w) :
  ∀ (r m:Nat) (b1 b2:Bool) (cv:Nat→Value) (a:Act) (w:World) (T:Nat→Prop) (g1 g2:Nat),a=canB a0 tc t1 t2 v1 v2 m (b1&&u1) (b2&&u2) cv g1 g2→m≤C.length→r=(C.length-m)+b2n b1+b2n b2→(u1=false→b1=true)→(u2=false→b2=true)→(c1<C.length→u1=true)→(c2<C.length→u2=true) →
   Φ m a w T→(∀ k,T k→k<w.heap.size)→(u1=true→b1=true→m≤c1→Nu lo t1 v1 o1 g1 a w T)→(u2=true→b2=true→m≤c2→Nu lo t2 v2 o2 g2 a w T)→(u1=true→u2=true→b1=true→b2=true→m≤c1→m≤c2→g1≠g2)→Zbf P .any ops Q S ds (fuel+r) (L m b1 b2) a w:=by
 intro r
 induction r with
 | zero =>
  intro m b1 b2 cv a w T g1 g2 hA hm hr _ _ _ _ hP hT h1 h2 h12
  have hf:b2n false=1:=rfl
  have e1:b1=true:=by
   cases b1 with
   | true=>rfl
   | false=>omega
  have e2:b2=true:=by
   cases b2 with
   | true=>rfl
   | false=>omega
  subst e1 e2
  have em:m=C.length:=by simp [b2n] at hr;omega
  subst em
  exact hend cv g1 g2 a w T (by simpa using hA) hP hT (fun u h=>h1 u rfl h) (fun u h=>h2 u rfl h) (fun u u' h h'=>h12 u u' rfl rfl h h')
 | succ r ih =>
  intro m b1 b2 cv a w T g1 g2 hA hm hr hu1 hu2 hc1 hc2 hP hT h1 h2 h12
  have hk:=Zyp hchk hm b1 b2 hu1 hu2
  simp only [nzB,Bool.or_eq_true,Bool.and_eq_true,beq_iff_eq,bne_iff_ne,ne_eq,List.all_eq_true,Bool.not_eq_true'] at hk
  have hne:¬((m=C.length∧b1=true)∧b2=true):=by
   rintro ⟨⟨rfl,rfl⟩,rfl⟩
   simp [b2n] at hr
  rcases hk with hk | ⟨hne',hk⟩
  ·exact absurd hk hne
  refine ⟨fun h0=>absurd h0 hne',fun i hi=>?_⟩
  have hsz':=hsz m a w T hP
  have hlo':=hlo m a w T hP
  rcases hk i hi with (⟨⟨⟨hci,hl⟩,hb1⟩,hb2⟩ | ⟨⟨rfl,hb1⟩,hl⟩) | ⟨⟨rfl,hb2⟩,hl⟩
  ·have hml:m<C.length:=(List.getElem?_eq_some_iff.1 hci).1
   obtain ⟨o,ho,hd,hg,hstep⟩:=hc m i hci a w T g1 g2 hP hT (fun e=>h1 (hc1 (by omega)) (hb1.resolve_left (by simpa using e)) (by omega)) (fun e=>h2 (hc2 (by omega)) (hb2.resolve_left (by simpa using e)) (by omega))
   refine wpOp_step ho (fun K hK=>?_)
   refine hstep K (fun v w' T' hP' hT' hw hTT hbl=>?_)
   rw [← hd]
   refine hK _ _ ⟨fun _ _=>hS _ _ _ _ hP', ?_⟩
   rw [hl,hd]
   have et1:(a.put (some (tc m)) v).eval (.tmp t1)=a.eval (.tmp t1):=Zaq (ht.2.2.2 m).1
   have et2:(a.put (some (tc m)) v).eval (.tmp t2)=a.eval (.tmp t2):=Zaq (ht.2.2.2 m).2
   refine ih (m+1) b1 b2 (updV cv m v) _ w' T' g1 g2 (by rw [hA];exact Zxo (ht.2.2.2 m).1 (ht.2.2.2 m).2) (by omega) (by omega) hu1 hu2 hc1 hc2 hP' hT' ?_ ?_ (fun x y z q p1 p2=>h12 x y z q (by omega) (by omega))
   ·intro x y z
    obtain ⟨k1,k2,k3,k4,k5⟩:=h1 x y (by omega)
    have hn2:¬(c2=m∧g1=g2):=fun e=>h12 x (hc2 (by omega)) y (hb2.resolve_left (by simpa using e.1)) (by omega) (by omega) e.2
    refine ⟨et1.trans k1,(hbl g1 k4 k3 (fun e=>by omega) hn2).trans k2,fun e=>?_,by omega,k5⟩
    rcases hTT g1 e with e | e | e | e
    ·exact k3 e
    ·omega
    ·omega
    ·exact hn2 e
   ·intro x y z
    obtain ⟨k1,k2,k3,k4,k5⟩:=h2 x y (by omega)
    have hn1:¬(c1=m∧g2=g1):=fun e=>h12 (hc1 (by omega)) x (hb1.resolve_left (by simpa using e.1)) y (by omega) (by omega) e.2.symm
    refine ⟨et2.trans k1,(hbl g2 k4 k3 hn1 (fun e=>by omega)).trans k2,fun e=>?_,by omega,k5⟩
    rcases hTT g2 e with e | e | e | e
    ·exact k3 e
    ·omega
    ·exact hn1 e
    ·omega
  ·have hu:u1=true:=by cases u1 with
    | true=>rfl
    | false=>rw [hu1 rfl] at hb1;cases hb1
   obtain ⟨o,ho,hd,hg,hrun⟩:=hn1 hu m a w T hP
   refine wpOp_step ho (fun K hK=>?_)
   refine Zvl (Zbn hg) rfl hrun ?_
   refine hK _ _ ⟨fun _ _=>hS _ _ _ _ (hst1 m a w T hP hT), ?_⟩
   rw [hl,hd]
   subst hb1
   have hal:=Zcq w o1
   refine ih m true b2 cv _ _ T w.heap.size g2 (by rw [hA,hu];exact Zyq ht.2.2.1) hm (by simp [b2n] at hr ⊢;omega) (fun _=>rfl) hu2 hc1 hc2 (hst1 m a w T hP hT) (fun k hk=>by have:=hT k hk;omega) ?_ ?_ ?_
   ·exact fun _ _ _=>⟨Zco (by omega),Zas w o1,fun e=>by have:=hT _ e;omega,by omega,hlo'⟩
   ·intro x y z
    obtain ⟨k1,k2,k3,k4,k5⟩:=h2 x y z
    exact ⟨(Zaq ht.2.2.1).trans k1,Zal k2 o1,k3,by omega,k5⟩
   ·intro x y z q p1 p2
    obtain ⟨k1,k2,k3,k4,k5⟩:=h2 y q p2
    omega
  ·have hu:u2=true:=by cases u2 with
    | true=>rfl
    | false=>rw [hu2 rfl] at hb2;cases hb2
   obtain ⟨o,ho,hd,hg,hrun⟩:=hn2 hu m a w T hP
   refine wpOp_step ho (fun K hK=>?_)
   refine Zvl (Zbn hg) rfl hrun ?_
   refine hK _ _ ⟨fun _ _=>hS _ _ _ _ (hst2 m a w T hP hT), ?_⟩
   rw [hl,hd]
   subst hb2
   have hal:=Zcq w o2
   refine ih m b1 true cv _ _ T g1 w.heap.size (by rw [hA,hu];exact Zyr) hm (by simp [b2n] at hr ⊢;omega) hu1 (fun _=>rfl) hc1 hc2 (hst2 m a w T hP hT) (fun k hk=>by have:=hT k hk;omega) ?_ ?_ ?_
   ·intro x y z
    obtain ⟨k1,k2,k3,k4,k5⟩:=h1 x y z
    exact ⟨(Zaq (fun e=>ht.2.2.1 e.symm)).trans k1,Zal k2 o2,k3,by omega,k5⟩
   ·exact fun _ _ _=>⟨Zco (by omega),Zas w o2,fun e=>by have:=hT _ e;omega,by omega,hlo'⟩
   ·intro x y z q p1 p2
    obtain ⟨k1,k2,k3,k4,k5⟩:=h1 x z p1
    omega
end Go.Proofs.YtaeckoinpllpnaaGreat
namespace Go.Proofs.YtaeckoinpllpnaaGreat
open Go.RowKit Go.Proofs.YtaeckoinpllpnaaGreatW.PrintWords
theorem Zfr (A:Option Addr) (c:Nat) (xs:List Int) (w:World) (hA:Rd Zdh w A xs) (hl:xs.length≤1048576) :
  Calls Tryz.prog 98 #[.slice A xs.length c] w fun e w'=>(∃ v,e=.returned v∧Rw Zdh 5 w' (fun k=>w.heap.size≤k) v xs)∧Below w.heap.size w w':=by
 have hb0:Below w.heap.size w (w.alloc (.cells #[] 5)):=(brf_).alloc nlr_ _
 have R0:=Zfl Zdh 5 w (fun k=>w.heap.size≤k) nlr_
 go_enter Tryz.func98,Tryz.ntmps98
 go_wp2_with ((with_reducible refine Zfo (b:=.append) (xs:=#[.tmp 3,.tmp 4]) rfl ?_);at_builtin;(refine Zdi Zdh Yam (w0:=w) rfl (.tmp 3) (.tmp 4) 101 5 _ _ rfl Tryz.underlying101 Zzy rfl (by decide) (by omega) (.slice (some ⟨w.heap.size,0,none⟩) 0 0) [] xs A c (fun k=>w.heap.size≤k) rfl rfl (R0) (Zac hA hb0) ?aS ?aF ?aB ?aL ?_);(case aS=>exact fun _ h=>h);(case aF=>exact fun b h=>Nat.le_trans (hb0).size h);(case aB=>exact hb0);(case aL=>simp;omega);intro v1 w1 hR1 hb1 hg hat)
 go_ret
 exact ⟨⟨_,rfl,by simpa using hR1⟩,hb1⟩
theorem Zea (A:Option Addr) (c:Nat) (xs:List Int) (w:World) (hA:Rd kInt w A xs) (hl:xs.length≤1048576) :
  Calls Tryz.prog 112 #[.slice A xs.length c] w fun e w'=>(∃ v,e=.returned v∧Rw kInt 3 w' (fun k=>w.heap.size≤k) v xs)∧Below w.heap.size w w':=by
 by_cases h0:xs.length=0
 ·obtain rfl:=List.eq_nil_of_length_eq_zero h0
  go_enter Tryz.func112,Tryz.ntmps112
  go_wp2
  go_ret
  exact ⟨⟨_,rfl,Zbq _ _ _ _⟩,brf_⟩
 ·obtain ⟨i0,hi,hzz⟩:=Option.map_eq_some_iff.1 iInt
  simp only [Prod.mk.injEq] at hzz
  obtain ⟨hz0,hz1,hz2⟩:=hzz
  have hmk:=run_make (P:=Tryz.prog) w 90 3 i0 _ Tryz.underlying90 hi hz0 .i64 .i64 (xs.length:Int) (xs.length:Int) (by omega) (by omega) (by rw [hz2];omega) (by omega)
  simp only [Int.toNat_natCast] at hmk
  rw [hz1,Nat.mul_one] at hmk
  have R0:=Zgl (fs:=kInt) (e:=3) (S:=fun k=>w.heap.size≤k) w (.int .i64 0) xs.length 0 rfl (by decide) Ztk (by omega) nlr_
  rw [show xs.length*kInt.length=xs.length from Nat.mul_one _] at R0
  have hb0:Below w.heap.size w (w.alloc (.cells (madeCells (Value.cells (.int .i64 0)) xs.length) 3)):=(brf_).alloc nlr_ _
  have hne:((xs.length:Int)==0)=false:=by rw [beq_eq_false_iff_ne];omega
  have hrd:=Yad (Zac hA hb0)
  have hR0:=Zxh (base:=w.heap.size) R0 (fun _ h=>h)
  clear R0 hz0 hz1 hz2 hi
  go_enter Tryz.func112,Tryz.ntmps112
  go_wp2_with ((with_reducible refine Zfo (b:=.copy) (xs:=#[.tmp 10,.tmp 11]) rfl ?_);go_loud (refine Kd.R_copy (enc:=Value.int .i64) (h1:=fun _=>rfl) 0 (w0:=w) w.heap.size rfl (.tmp 10) (.tmp 11) 90 90 3 rfl Tryz.underlying90 (by kernel_rfl) (.slice (some ⟨w.heap.size,0,none⟩) xs.length xs.length) (List.replicate xs.length 0) xs A xs.length c (fun k=>w.heap.size≤k) rfl rfl hR0 hrd hb0 hb0.size ?_);intro w1 hR1 hb1 hg1)
  go_ret
  exact ⟨⟨_,rfl,Zxg (by simp at hR1;exact hR1)⟩,hb1⟩
theorem Zgm (A:Option Addr) (c:Nat) (xs:List Int) (w:World) (hA:Rd Zdh w A xs) (hl:xs.length≤1048576) :
  Calls Tryz.prog 153 #[.slice A xs.length c] w fun e w'=>(∃ v,e=.returned v∧Rw Zdh 5 w' (fun k=>w.heap.size≤k) v xs)∧Below w.heap.size w w':=by
 by_cases h0:xs.length=0
 ·obtain rfl:=List.eq_nil_of_length_eq_zero h0
  go_enter Tryz.func153,Tryz.ntmps153
  go_wp2
  go_ret
  exact ⟨⟨_,rfl,Zbq _ _ _ _⟩,brf_⟩
 ·obtain ⟨i0,hi,hzz⟩:=Option.map_eq_some_iff.1 Zzy
  simp only [Prod.mk.injEq] at hzz
  obtain ⟨hz0,hz1,hz2⟩:=hzz
  have hmk:=run_make (P:=Tryz.prog) w 101 5 i0 _ Tryz.underlying101 hi hz0 .i64 .i64 (xs.length:Int) (xs.length:Int) (by omega) (by omega) (by rw [hz2];omega) (by omega)
  simp only [Int.toNat_natCast] at hmk
  rw [hz1,Nat.mul_one] at hmk
  have R0:=Zgl (fs:=Zdh) (e:=5) (S:=fun k=>w.heap.size≤k) w (.int .u8 0) xs.length 0 rfl (by decide) Zwu (by omega) nlr_
  rw [show xs.length*Zdh.length=xs.length from Nat.mul_one _] at R0
  have hb0:Below w.heap.size w (w.alloc (.cells (madeCells (Value.cells (.int .u8 0)) xs.length) 5)):=(brf_).alloc nlr_ _
  have hne:((xs.length:Int)==0)=false:=by rw [beq_eq_false_iff_ne];omega
  have hrd:=Zqf (Zac hA hb0)
  have hR0:=Zwj (base:=w.heap.size) R0 (fun _ h=>h)
  clear R0 hz0 hz1 hz2 hi
  go_enter Tryz.func153,Tryz.ntmps153
  go_wp2_with ((with_reducible refine Zfo (b:=.copy) (xs:=#[.tmp 10,.tmp 11]) rfl ?_);go_loud (refine Kd.R_copy (enc:=Value.int .u8) (h1:=fun _=>rfl) 0 (w0:=w) w.heap.size rfl (.tmp 10) (.tmp 11) 101 101 5 rfl Tryz.underlying101 (by kernel_rfl) (.slice (some ⟨w.heap.size,0,none⟩) xs.length xs.length) (List.replicate xs.length 0) xs A xs.length c (fun k=>w.heap.size≤k) rfl rfl hR0 hrd hb0 hb0.size ?_);intro w1 hR1 hb1 hg1)
  go_ret
  exact ⟨⟨_,rfl,Zwi (by simp at hR1;exact hR1)⟩,hb1⟩
end Go.Proofs.YtaeckoinpllpnaaGreat
namespace Go.Proofs.YtaeckoinpllpnaaGreat
open Go.RowKit Go.Proofs.YtaeckoinpllpnaaGreatW.PrintWords Go.Proofs.YtaeckoinpllpnaaGreatW.PrintLast
def Sl (l:List (Nat×Value)) (a:Act):Prop:=∀ p,p∈l→a.eval (.tmp p.1)=p.2
theorem Sl.put {l:List (Nat×Value)} {a:Act} {t:Nat} {v:Value} (h:Sl l a) (ht:(l.all fun p=>p.1 != t)=true):Sl l (a.put (some t) v):=fun p hp=>by
 have:=List.all_eq_true.1 ht p hp
 rw [Zaq (fun e=>by subst e;simp at this)]
 exact h p hp
theorem Zgd {P:Program} {o:Oper} {ops:Array Oper} {t:Nat} {a:Act} {w w1:World} {v:Value} {K:Act→World→Prop} {Q:Exit→Act→World→Prop} (hg:o.guard=none) (hN:o.dst=some t) (hrun:(execOp a.eval o).run P w=.ok (.value v) w1) (h:K (a.put (some t) v) w1) :
  if Region.wanted o (yielded ops a.tmps)=true then Oper.wp P o a w K Q else K (a.put o.dst undef) w:=by
 have:=Zvl (P:=P) (Q:=Q) (ops:=ops) (Zbn hg) hN hrun h
 rw [hN]
 exact this
theorem Zdj {α:Type} (fs:List (Fd α)) (hf:Flat fs) {P:Program} {ops:Array Oper} {o:Oper} {a:Act} {Q:Exit→Act→World→Prop} {K:Act→World→Prop} {W:World} (hgd:o.guard=none) (s x:Operand) (t e:TypeId) (z:Value) (bytes:Nat)
  (ho:o.op=.call { callee:=.builtin .append,args:=#[s,x],argTypes:=#[t,t] })
  (ht:P.underlying t=some (.slice e)) (hinfo:(P.info? e).map (fun i=>(i.zero,i.size,i.bytes))=some (some z,fs.length,bytes)) (hz:z.cells.size=fs.length) (hs0:0<fs.length) (hb0:0<bytes)
  (g0:Nat) (v:Value) (ys:List α) (A:Option Addr) (c:Nat) (hs:a.eval s=v) (hx:a.eval x=.slice A ys.length c)
  (HO:Rw fs e W (fun k=>k=g0) v []) (hg0:g0<W.heap.size) (HR:Rd fs W A ys) (hl:ys.length*bytes≤140737488355328)
  (h:∀ v1 w1,Rw fs e w1 (fun k=>k=g0∨W.heap.size≤k) v1 ys→W.heap.size≤w1.heap.size→(∀ k,k<W.heap.size→k≠g0→w1.heap[k]? = W.heap[k]?)→Below g0 W w1→K (a.put o.dst v1) w1) :
  if Region.wanted o (yielded ops a.tmps)=true then Oper.wp P o a W K Q else K (a.put o.dst undef) W:=by
 refine Kd.R_append_rows_step (Zvv fs hf) (Rr:=fun x cs=>allK W x fs cs) (w0:=W) g0 (Zbn hgd) s x t e z bytes ho ht hinfo hz hs0 hb0 v [] ys A ys.length c (fun k=>k=g0∨W.heap.size≤k) (fun _=>False) hs hx (Zsz hf (Zae HO (fun _ h=>Or.inl h)) (fun k hk=>by omega)) HR (fun _ _ h=>h) (fun _ h=>h.elim) (fun _ h=>Or.inr h) brf_ (by omega) (by simpa using hl) ?_
 intro v1 w1 h1 h2 h3 h4
 refine h v1 w1 (Zsy (by simpa using h1)) h2.size (fun k hk hn=>h3.block k hk (fun e=>hn ?_)) h2
 have:=(Zca HO) k e.symm
 exact this.1
theorem Zgx {P:Program} {ops:Array Oper} {o:Oper} {a:Act} {w:World} {K:Act→World→Prop} {Q:Exit→Act→World→Prop} (hgd:o.guard=none) (hN:o.dst=none) (ty:TypeId) (x y:Operand) (ho:o.op=.store ty x y)
  (g:Nat) (cells:Array Value) (hx:a.eval x=.pointer (some ⟨g,0,none⟩)) (hy:a.eval y=.agg cells) (t:TypeId) (old:Array Value) (hg:w.heap[g]? = some (.cells old t (0,0))) (hi:(P.info? ty).map (·.size)=some cells.size)
  (hold:old.size=cells.size) (h1:cells.all (·.oneCell')=true)
  (h:∀ w',w'.heap[g]? = some (.cells cells t (0,0))→Kep (fun b=>b=g) w w'→K a w'):if Region.wanted o (yielded ops a.tmps)=true then Oper.wp P o a w K Q else K (a.put none undef) w:=by
 rw [if_pos (Zbn hgd)]
 refine wp_store_row ty x y ho g cells hx hy t old hg hi hold h1 ?_
 rw [hN]
 exact h _ (setRow_heap w g old cells t (0,0) hg) ⟨setRow_os _ _ _,setRow_tape _ _ _,setRow_output _ _ _,by simp,fun k _ hn=>setRow_other w g k cells hn⟩
theorem Zek {w:World} {g i:Nat} {v:Value} {cs:Array Value} {t:TypeId} (hN:w.heap[g]? = some (.cells cs t (0,0))) (hc:cs[i]? = some v):w.setCell ⟨g,i,none⟩ v=w:=by
 rw [setCell_eq_setRow w g i cs t (0,0) v hN]
 have:cs.setIfInBounds i v=cs:=by
  apply Array.ext
  ·simp
  ·intro j h1 h2
   rw [Array.getElem_setIfInBounds]
   split
   ·rename_i e
    subst e
    have:=(Array.getElem?_eq_some_iff.1 hc).2
    exact this.symm
   ·rfl
 rw [this]
 exact setRow_self w g cs t (0,0) hN
theorem Zey {P:Program} {ops:Array Oper} {rest:List Oper} {o:Oper} {a:Act} {w:World} {Q:Exit→Act→World→Prop} (ty:TypeId) (x y:Operand) (ho:o.op=.store ty x y∧o.dst=none∧o.guard=none)
  (g:Nat) (cells:Array Value) (hx:a.eval x=.pointer (some ⟨g,0,none⟩)) (hy:a.eval y=.agg cells) (t:TypeId) (old:Array Value) (hg:w.heap[g]? = some (.cells old t (0,0))) (hi:(P.info? ty).map (·.size)=some cells.size)
  (hold:old.size=cells.size) (h1:cells.all (·.oneCell')=true)
  (h:∀ w',w'.heap[g]? = some (.cells cells t (0,0))→Kep (fun b=>b=g) w w'→wpList P ops Q rest a w'):wpList P ops Q (o::rest) a w:=by
 obtain ⟨b1,b2,b3⟩:=ho
 refine wpList_store_row b3 ty x y b1 g cells hx hy t old hg hi hold h1 ?_
 rw [b2]
 exact h _ (setRow_heap w g old cells t (0,0) hg) ⟨setRow_os _ _ _,setRow_tape _ _ _,setRow_output _ _ _,by simp,fun k _ hn=>setRow_other w g k cells hn⟩
theorem Ztc {α:Type} {fs:List (Fd α)} {e:TypeId} {w:World} {g:Nat} (z:Value) (n:Nat) (z0:α) (hz:z.cells.size=fs.length) (hs0:0<fs.length) (hzero:∀ w (T:Nat→Prop),Own fs w T z0 z.cells.toList) (hl:n≤281474976710656)
  (h:w.heap[g]? = some (.cells (madeCells z.cells (n*fs.length)) e (0,0))):Rw fs e w (fun k=>k=g) (.slice (some ⟨g,0,none⟩) n n) (List.replicate n z0):=by
 have hg:=Zao h
 have hs:({ w with heap:=w.heap.extract 0 g }:World).heap.size=g:=by simp;omega
 have q:=Zgl (e:=e) (S:=fun k=>k=g) ({ w with heap:=w.heap.extract 0 g }) z n z0 hz hs0 hzero hl hs
 rw [hs] at q
 refine Zcd q (fun k hk=>?_)
 subst hk
 rw [h]
 exact (Zbs _ _ hs).symm
end Go.Proofs.YtaeckoinpllpnaaGreat
namespace Go.Proofs.YtaeckoinpllpnaaGreat
open Go.RowKit Go.Proofs.YtaeckoinpllpnaaGreatW.PrintWords
noncomputable def ext (w t:World):World:=@ite _ (Below w.heap.size w t) (Classical.propDecidable _) t w
theorem Zam (w t:World):Below w.heap.size w (ext w t):=by
 unfold ext
 by_cases h:Below w.heap.size w t
 ·rw [if_pos h]
  exact h
 ·rw [if_neg h]
  exact brf_
theorem Zzc {w t:World} (h:Below w.heap.size w t):t=ext w t:=by
 unfold ext
 rw [if_pos h]
noncomputable def far (w t:World) (a:Addr):Option Value:=(ext w t).cell? a
theorem Zbg (w:World):∀ (t:World) (a:Addr),(ext w t).cell? a=(w.cell? a).or (far w t a):=by
 intro t a
 cases h:w.cell? a with
 | none=>rfl
 | some v =>
  rw [Zaa (Zam w t) h]
  rfl
theorem Calls.ext_of_below {P:Program} {f:FuncId} {args:Array Value} {w:World} {t:World} {v:Value}
  (h:Calls P f args (ext w t) fun e w'=>e=.returned v∧Below (ext w t).heap.size (ext w t) w'):Calls P f args (ext w t) fun e w''=>e=.returned v∧∃ m,w''=ext w m :=
 h.mono fun _ w' ⟨he,hb⟩=>⟨he,w',Zzc ((Zam w t).trans (hb.mono (Zam w t).size))⟩
theorem Calls.ext_of_same {P:Program} {f:FuncId} {args:Array Value} {w:World} {t:World} {v:Value}
  (h:Calls P f args (ext w t) fun e w'=>e=.returned v∧w'=ext w t):Calls P f args (ext w t) fun e w''=>e=.returned v∧∃ m,w''=ext w m :=
 h.mono fun _ w' ⟨he,hb⟩=>⟨he,t,hb⟩
theorem Zan {P:Program} {id:Nat} {Q:Exit→Act→World→Prop} {a:Act} {w:World} {l:List Oper} (hm:P.follows .mixedOrders=true) (hB:Region.lexB .any l.toArray=true)
  (h:wpQuiet P l.toArray (fun w'=>∃ n,w'=ext w n) (fun a'=>∀ w',(∃ n,w'=ext w n)→Q .normal a' w') l a):(Code.region id l.toArray true).wp P Q a w :=
 wp_region_quiet (C:=fun w'=>∃ n,w'=ext w n) hm hB ⟨_,Zzc (Zat (Below.refl w.heap.size w))⟩ (by simpa using h)
def Zbt:CelSt:=⟨0,List.replicate 4 0,List.replicate 8 0,0,[]⟩
theorem Zvf (w:World) (n:Nat) (hn:n≤100):(Instr.makeSlice 90 (.int .i64 n) (.int .i64 n)).run Tryz.prog w=.ok (.slice (some ⟨w.heap.size,0,none⟩) n n) (w.alloc (.cells (madeCells (Value.cells (.int .i64 0)) n) 3)):=by
 obtain ⟨i0,hi,hzz⟩:=Option.map_eq_some_iff.1 iInt
 simp only [Prod.mk.injEq] at hzz
 obtain ⟨hz0,hz1,hz2⟩:=hzz
 have hmk:=run_make (P:=Tryz.prog) w 90 3 i0 _ Tryz.underlying90 hi hz0 .i64 .i64 (n:Int) (n:Int) (by omega) (by omega) (by rw [hz2];omega) (by omega)
 simp only [Int.toNat_natCast] at hmk
 rw [hz1,Nat.mul_one] at hmk
 exact hmk
theorem Ziw {S:Nat→Prop} (W:World) (g n:Nat) (hg:W.heap.size=g) (hS:S g) (hn:n≤100):Rw kInt 3 (W.alloc (.cells (madeCells #[.int .i64 0] n) 3)) S (.slice (some ⟨g,0,none⟩) n n) (List.replicate n 0):=by
 subst hg
 have:=Zgl (fs:=kInt) (e:=3) (S:=S) W (.int .i64 0) n 0 rfl (by decide) Ztk (by omega) hS
 rw [show n*kInt.length=n from Nat.mul_one n] at this
 exact this
theorem Zrv (w:World) :
  Calls Tryz.prog 169 #[] w fun e w'=>(∃ (u1 u2:Value) (f:Nat→Nat),e=.returned (.agg #[.int .i64 0,u1,u2,.int .i64 0])∧Rw kInt 3 w' (fun k=>w.heap.size≤k∧f k=1) u1 (List.replicate 4 0)∧Rw kInt 3 w' (fun k=>w.heap.size≤k∧f k=2) u2 (List.replicate 8 0))∧Below w.heap.size w w':=by
 have hm4:∀ w:World,(Instr.makeSlice 90 (.int .i64 4) (.int .i64 4)).run Tryz.prog w=.ok (.slice (some ⟨w.heap.size,0,none⟩) 4 4) (w.alloc (.cells (madeCells (Value.cells (.int .i64 0)) 4) 3)):=fun w=>Zvf w 4 (by decide)
 have hm8:∀ w:World,(Instr.makeSlice 90 (.int .i64 8) (.int .i64 8)).run Tryz.prog w=.ok (.slice (some ⟨w.heap.size,0,none⟩) 8 8) (w.alloc (.cells (madeCells (Value.cells (.int .i64 0)) 8) 3)):=fun w=>Zvf w 8 (by decide)
 go_enter Tryz.func169,Tryz.ntmps169
 go_wp2_with (fail)
 go_region
 ·go_wp2
  have hb0:=(Below.refl w.heap.size w).alloc nlr_ (.cells #[.int .i64 0,.slice (some ⟨w.heap.size+1,0,none⟩) 4 4,.slice (some ⟨w.heap.size+1+1,0,none⟩) 8 8,.int .i64 0] 100)
  have hb1:=hb0.alloc hb0.size (.cells (madeCells #[.int .i64 0] 4) 3)
  have hb2:=hb1.alloc hb1.size (.cells (madeCells #[.int .i64 0] 8) 3)
  refine bodyPost_ret (results_cell_row rfl _ _ w.heap.size 100 #[.int .i64 0,.slice (some ⟨w.heap.size+1,0,none⟩) 4 4,.slice (some ⟨w.heap.size+1+1,0,none⟩) 8 8,.int .i64 0] (0,0) _ rfl (by exact Zdb (Zal (Zal (Zas w _) _) _)) Tryz.underlying100 rfl (by kernel_rfl)) rfl ?_
  have r1:=Zaj (Zaj (Ziw (S:=fun k=>w.heap.size≤k∧(if k=w.heap.size+1 then 1 else 2)=1) (w.alloc (.cells #[.int .i64 0,.slice (some ⟨w.heap.size+1,0,none⟩) 4 4,.slice (some ⟨w.heap.size+1+1,0,none⟩) 8 8,.int .i64 0] 100)) (w.heap.size+1) 4 (by simp) ⟨by omega,if_pos rfl⟩ (by decide)) ((brf_).alloc nlr_ (.cells (madeCells #[.int .i64 0] 8) 3))) (Zat (brf_))
  have r2:=Zaj (Ziw (S:=fun k=>w.heap.size≤k∧(if k=w.heap.size+1 then 1 else 2)=2) ((w.alloc (.cells #[.int .i64 0,.slice (some ⟨w.heap.size+1,0,none⟩) 4 4,.slice (some ⟨w.heap.size+1+1,0,none⟩) 8 8,.int .i64 0] 100)).alloc (.cells (madeCells #[.int .i64 0] 4) 3)) (w.heap.size+1+1) 8 (by simp) ⟨by omega,if_neg (by omega)⟩ (by decide)) (Zat (brf_))
  exact ⟨⟨_,_,fun k=>if k=w.heap.size+1 then 1 else 2,rfl,r1,r2⟩,Zat hb2⟩
 ·go_wp2
  have hb0:=(Below.refl w.heap.size w).alloc nlr_ (.cells #[.int .i64 0,.slice (some ⟨w.heap.size+1+1,0,none⟩) 4 4,.slice (some ⟨w.heap.size+1,0,none⟩) 8 8,.int .i64 0] 100)
  have hb1:=hb0.alloc hb0.size (.cells (madeCells #[.int .i64 0] 8) 3)
  have hb2:=hb1.alloc hb1.size (.cells (madeCells #[.int .i64 0] 4) 3)
  refine bodyPost_ret (results_cell_row rfl _ _ w.heap.size 100 #[.int .i64 0,.slice (some ⟨w.heap.size+1+1,0,none⟩) 4 4,.slice (some ⟨w.heap.size+1,0,none⟩) 8 8,.int .i64 0] (0,0) _ rfl (by exact Zdb (Zal (Zal (Zas w _) _) _)) Tryz.underlying100 rfl (by kernel_rfl)) rfl ?_
  have r1:=Zaj (Zaj (Ziw (S:=fun k=>w.heap.size≤k∧(if k=w.heap.size+1 then 2 else 1)=2) (w.alloc (.cells #[.int .i64 0,.slice (some ⟨w.heap.size+1+1,0,none⟩) 4 4,.slice (some ⟨w.heap.size+1,0,none⟩) 8 8,.int .i64 0] 100)) (w.heap.size+1) 8 (by simp) ⟨by omega,if_pos rfl⟩ (by decide)) ((brf_).alloc nlr_ (.cells (madeCells #[.int .i64 0] 4) 3))) (Zat (brf_))
  have r2:=Zaj (Ziw (S:=fun k=>w.heap.size≤k∧(if k=w.heap.size+1 then 2 else 1)=1) ((w.alloc (.cells #[.int .i64 0,.slice (some ⟨w.heap.size+1+1,0,none⟩) 4 4,.slice (some ⟨w.heap.size+1,0,none⟩) 8 8,.int .i64 0] 100)).alloc (.cells (madeCells #[.int .i64 0] 8) 3)) (w.heap.size+1+1) 4 (by simp) ⟨by omega,if_neg (by omega)⟩ (by decide)) (Zat (brf_))
  exact ⟨⟨_,_,fun k=>if k=w.heap.size+1 then 2 else 1,rfl,r2,r1⟩,Zat hb2⟩
theorem Zix (w:World) :
  Calls Tryz.prog 114 #[] w fun e w'=>(∃ cs:List Value,e=.returned (.agg cs.toArray)∧Own Zby w' (fun k=>w.heap.size≤k) Zbt cs)∧Below w.heap.size w w':=by
 have hb0:=(Below.refl w.heap.size w).alloc nlr_ (.cells #[.int .i64 0,.slice none 0 0,.slice none 0 0,.int .i64 0,.slice none 0 0] 103)
 have q:=Zrv (w.alloc (.cells #[.int .i64 0,.slice none 0 0,.slice none 0 0,.int .i64 0,.slice none 0 0] 103))
 go_enter Tryz.func114,Tryz.ntmps114
 go_upto_region 1 with (fail)
 go_wp2_with (go_at_call 169;with_reducible refine q.mono ?_;rintro e w1 ⟨⟨u1,u2,f,rfl,h1,h2⟩,hb1⟩;obtain ⟨B1,d1,rfl,-,-⟩:=Zbl h1;obtain ⟨B2,d2,rfl,-,-⟩:=Zbl h2;have N1:=Zab (Zas w _) hb1;obtain ⟨e0,e1,e2,e3,e4⟩:=cellsP5 N1;have f0:=Zad N1 0;have f1:=Zad N1 1;have f2:=Zad N1 2;have f3:=Zad N1 3;have f4:=Zad N1 4)
 simp only [List.length_replicate] at *
 have hk:=((((((Kep.refl (fun b=>b=w.heap.size) w1).set (g:=w.heap.size) (i:=0) rfl (.int .i64 0)).set (g:=w.heap.size) (i:=1) rfl (.slice B1 4 d1)).set (g:=w.heap.size) (i:=2) rfl (.slice B2 8 d2)).set (g:=w.heap.size) (i:=3) rfl (.int .i64 0)).set (g:=w.heap.size) (i:=4) rfl (.slice none 0 0))
 have hsz:w.heap.size+1≤w1.heap.size:=by have:=hb1.size;simpa using this
 refine bodyPost_ret (results_cell_row rfl _ _ w.heap.size 103 #[.int .i64 0,.slice B1 4 d1,.slice B2 8 d2,.int .i64 0,.slice none 0 0] (0,0) _ rfl (by exact (Zau (Zau (Zau (Zau (Zau N1 0 (.int .i64 0)) 1 (.slice B1 4 d1)) 2 (.slice B2 8 d2)) 3 (.int .i64 0)) 4 (.slice none 0 0))) Tryz.underlying103 rfl (by kernel_rfl)) rfl ?_
 have r1:=Zah h1 (fun b h hlt=>hk.block b hlt (fun e=>by have:=h.1;simp at this;omega))
 have r2:=Zah h2 (fun b h hlt=>hk.block b hlt (fun e=>by have:=h.1;simp at this;omega))
 refine ⟨⟨[.int .i64 0,.slice B1 4 d1,.slice B2 8 d2,.int .i64 0,.slice none 0 0],rfl,Zlw f (Zae r1 (fun b h=>⟨by have:=h.1;simp at this;omega,h.2⟩)) (Zae r2 (fun b h=>⟨by have:=h.1;simp at this;omega,h.2⟩)) (Zbq _ _ _ _)⟩, ?_⟩
 exact (hb0.trans (hb1.mono (by simp))).trans ⟨hk.os,hk.tape,hk.output,hk.size,fun b hb=>hk.block b (by omega) (fun e=>by omega)⟩
theorem Zev (n:Nat) (w:World) (hn:n≤1048576) :
  Calls Tryz.prog 184 #[.int .i64 n] w fun e w'=>(∃ v,e=.returned v∧Rw kInt 3 w' (fun k=>w.heap.size≤k) v (List.replicate n 0))∧Below w.heap.size w w':=by
 have hb0:Below w.heap.size w (w.alloc (.cells #[] 3)):=(brf_).alloc nlr_ _
 have R0:=Zfl kInt 3 w (fun k=>w.heap.size≤k) nlr_
 go_enter Tryz.func184,Tryz.ntmps184
 go_wp2
 go_loopw [0,3] (fun i v wr=>∃ (j m:Nat) (u:Value),j+m=n∧i=.int .i64 m∧u=v∧Aside0 (Rw kInt 3 wr (fun k=>w.heap.size≤k) u (List.replicate j 0))∧Below w.heap.size w wr) (fun i _ _=>(intOf i).toNat)
 case atStart=>exact ⟨0,n,_,by omega,rfl,rfl,⟨R0⟩,hb0⟩
 case round =>
  obtain ⟨j,m,vv,hj,rfl,rfl,hR,hb⟩:=hrel
  have hR:=hR.out
  by_cases h0:0<m
  ·have hb9:Below wr.heap.size wr wr:=brf_
   go_wp2_with ((with_reducible refine Zfo (b:=.append) (xs:=#[.tmp 7,.tmp 8]) rfl ?_);at_builtin;(refine Zdg kInt (w0:=w) rfl (.tmp 7) (.tmp 8) 90 3 _ _ rfl Tryz.underlying90 iInt rfl (by decide) (by omega) (vv) (List.replicate j 0) (0) [.int .i64 0] (fun k=>w.heap.size≤k) (fun _=>False) rfl rfl (Ztl 0 _ _) (Zae hR (fun _ h=>⟨h,fun h=>h⟩)) (fun _ h=>h.elim) (fun _ h=>h) (fun b h=>Nat.le_trans hb.size h) (hb) (by simp;omega) ?_);intro v1 w1 hR1 hb1 hg hat)
   refine ⟨⟨j+1,m-1,_,by omega,by congr 1;omega,rfl,⟨by rw [List.replicate_succ'];exact hR1⟩,hb1⟩, ?_⟩
   simp [intOf]
   omega
  ·have e:j=n:=by omega
   subst e
   have hR:=Aside0.mk hR
   go_wp2
   go_ret
   exact ⟨⟨_,rfl,hR.out⟩,hb⟩
theorem Zrw (w:World) :
  Calls Tryz.prog 185 #[] w fun e w'=>(∃ (u1 u2:Value) (f:Nat→Nat),e=.returned (.agg #[.int .i64 0,u1,u2,.int .i64 0])∧Rw kInt 3 w' (fun k=>w.heap.size≤k∧f k=1) u1 (List.replicate 4 0)∧Rw kInt 3 w' (fun k=>w.heap.size≤k∧f k=2) u2 (List.replicate 8 0))∧Below w.heap.size w w':=by
 have hb0:=(Below.refl w.heap.size w).alloc nlr_ (.cells #[.int .i64 0,.slice none 0 0,.slice none 0 0,.int .i64 0] 100)
 have q1:Calls Tryz.prog 184 #[.int .i64 4] (w.alloc (.cells #[.int .i64 0,.slice none 0 0,.slice none 0 0,.int .i64 0] 100)) _:=Zev 4 (w.alloc (.cells #[.int .i64 0,.slice none 0 0,.slice none 0 0,.int .i64 0] 100)) (by decide)
 have q2:∀ w:World,Calls Tryz.prog 184 #[.int .i64 8] w _:=fun w=>Zev 8 w (by decide)
 go_enter Tryz.func185,Tryz.ntmps185
 go_wp2_with (first
  | (go_at_call 184;with_reducible refine (q2 _).mono ?_;rintro e w2 ⟨⟨v2,rfl,h2⟩,hb2⟩;obtain ⟨B2,d2,rfl,-,-⟩:=Zbl h2;have N2:=Zab N1 hb2;obtain ⟨e0,e1,e2,e3⟩:=cellsP4 N2;have f0:=Zad N2 0;have f1:=Zad N2 1;have f2:=Zad N2 2;have f3:=Zad N2 3)
  | (go_at_call 184;with_reducible refine q1.mono ?_;rintro e w1 ⟨⟨v1,rfl,h1⟩,hb1⟩;obtain ⟨B1,d1,rfl,-,-⟩:=Zbl h1;have N1:=Zab (Zas w _) hb1))
 simp only [List.length_replicate] at *
 have hk:=(((((Kep.refl (fun b=>b=w.heap.size) w2).set (g:=w.heap.size) (i:=0) rfl (.int .i64 0)).set (g:=w.heap.size) (i:=1) rfl (.slice B1 4 d1)).set (g:=w.heap.size) (i:=2) rfl (.slice B2 8 d2)).set (g:=w.heap.size) (i:=3) rfl (.int .i64 0))
 have hs1:w.heap.size+1≤w1.heap.size:=by have:=hb1.size;simpa using this
 have hs2:=hb2.size
 refine bodyPost_ret (results_cell_row rfl _ _ w.heap.size 100 #[.int .i64 0,.slice B1 4 d1,.slice B2 8 d2,.int .i64 0] (0,0) _ rfl (by exact (Zau (Zau (Zau (Zau N2 0 (.int .i64 0)) 1 (.slice B1 4 d1)) 2 (.slice B2 8 d2)) 3 (.int .i64 0))) Tryz.underlying100 rfl (by kernel_rfl)) rfl ?_
 have r1:=Zah (Zaj (Zaf h1) hb2) (fun b h hlt=>hk.block b hlt (fun e=>by have:=h.1;simp at this;omega))
 have r2:=Zah h2 (fun b h hlt=>hk.block b hlt (fun e=>by omega))
 refine ⟨⟨_,_,fun b=>if b<w1.heap.size then 1 else 2,rfl,Zae r1 (fun b h=>⟨by have:=h.1;simp at this;omega,if_pos h.2⟩),Zae r2 (fun b h=>⟨by omega,if_neg (by omega)⟩)⟩, ?_⟩
 exact ((hb0.trans (hb1.mono (by simp))).trans (hb2.mono (by omega))).trans ⟨hk.os,hk.tape,hk.output,hk.size,fun b hb=>hk.block b (by omega) (fun e=>by omega)⟩
theorem Zhe (w:World) :
  Calls Tryz.prog 145 #[] w fun e w'=>(∃ cs:List Value,e=.returned (.agg cs.toArray)∧Own Zby w' (fun k=>w.heap.size≤k) Zbt cs)∧Below w.heap.size w w':=by
 have hb0:=(Below.refl w.heap.size w).alloc nlr_ (.cells #[.int .i64 0,.slice none 0 0,.slice none 0 0,.int .i64 0,.slice none 0 0] 103)
 have q:=Zrw (w.alloc (.cells #[.int .i64 0,.slice none 0 0,.slice none 0 0,.int .i64 0,.slice none 0 0] 103))
 go_enter Tryz.func145,Tryz.ntmps145
 go_upto_region 1 with (fail)
 go_wp2_with (go_at_call 185;with_reducible refine q.mono ?_;rintro e w1 ⟨⟨u1,u2,f,rfl,h1,h2⟩,hb1⟩;obtain ⟨B1,d1,rfl,-,-⟩:=Zbl h1;obtain ⟨B2,d2,rfl,-,-⟩:=Zbl h2;have N1:=Zab (Zas w _) hb1;obtain ⟨e0,e1,e2,e3,e4⟩:=cellsP5 N1;have f0:=Zad N1 0;have f1:=Zad N1 1;have f2:=Zad N1 2;have f3:=Zad N1 3;have f4:=Zad N1 4)
 simp only [List.length_replicate] at *
 have hk:=((((((Kep.refl (fun b=>b=w.heap.size) w1).set (g:=w.heap.size) (i:=0) rfl (.int .i64 0)).set (g:=w.heap.size) (i:=1) rfl (.slice B1 4 d1)).set (g:=w.heap.size) (i:=2) rfl (.slice B2 8 d2)).set (g:=w.heap.size) (i:=3) rfl (.int .i64 0)).set (g:=w.heap.size) (i:=4) rfl (.slice none 0 0))
 have hsz:w.heap.size+1≤w1.heap.size:=by have:=hb1.size;simpa using this
 refine bodyPost_ret (results_cell_row rfl _ _ w.heap.size 103 #[.int .i64 0,.slice B1 4 d1,.slice B2 8 d2,.int .i64 0,.slice none 0 0] (0,0) _ rfl (by exact (Zau (Zau (Zau (Zau (Zau N1 0 (.int .i64 0)) 1 (.slice B1 4 d1)) 2 (.slice B2 8 d2)) 3 (.int .i64 0)) 4 (.slice none 0 0))) Tryz.underlying103 rfl (by kernel_rfl)) rfl ?_
 have r1:=Zah h1 (fun b h hlt=>hk.block b hlt (fun e=>by have:=h.1;simp at this;omega))
 have r2:=Zah h2 (fun b h hlt=>hk.block b hlt (fun e=>by have:=h.1;simp at this;omega))
 refine ⟨⟨[.int .i64 0,.slice B1 4 d1,.slice B2 8 d2,.int .i64 0,.slice none 0 0],rfl,Zlw f (Zae r1 (fun b h=>⟨by have:=h.1;simp at this;omega,h.2⟩)) (Zae r2 (fun b h=>⟨by have:=h.1;simp at this;omega,h.2⟩)) (Zbq _ _ _ _)⟩, ?_⟩
 exact (hb0.trans (hb1.mono (by simp))).trans ⟨hk.os,hk.tape,hk.output,hk.size,fun b hb=>hk.block b (by omega) (fun e=>by omega)⟩
theorem Zaz (x lo hi:Int) (w:World) :
  Calls Tryz.prog 94 #[.int .i64 x,.int .i64 lo,.int .i64 hi] w fun e w'=>e=.returned (.bool (inB x lo hi))∧w'=w:=by
 go_enter Tryz.func94,Tryz.ntmps94
 go_wp2
 all_goals go_ret
 all_goals exact ⟨by simp [inB, *] <;> omega,rfl⟩
def fits (k:Int) (n:Int):Bool:=if k=114 then inB n 0 3 else if k=118 then inB n 0 255 else if k=112 then inB n 0 24 else if k=119 then inB n 0 9 else n==0
theorem Zdx (k n:Int) (w:World) :
  Calls Tryz.prog 243 #[.int .u8 k,.int .i64 n] w fun e w'=>e=.returned (.bool (fits k n))∧w'=w:=by
 go_enter Tryz.func243,Tryz.ntmps243
 go_wp2_with (go_at_call 94;refine (Zaz _ _ _ _).mono ?_;rintro e w1 ⟨rfl,rfl⟩)
 all_goals go_ret
 all_goals simp only [beq_iff_eq,beq_eq_false_iff_ne,ne_eq] at *
 all_goals exact ⟨by simp [fits, *],by first | rfl | trivial⟩
def Zdu (op:Int):ByteArray:=if op=1 then ⟨#[114,118,45]⟩ else if op=2∨op=3∨op=4∨op=6∨op=7∨op=11 then ⟨#[114,114,45]⟩ else if op=5 then ⟨#[114,114,114]⟩ else if op=8 then ⟨#[112,114,45]⟩ else if op=9∨op=10 then ⟨#[119,114,114]⟩ else if op=12 then ⟨#[114,45,45]⟩ else if op=13∨op=14 then ⟨#[45,45,45]⟩ else ⟨#[]⟩
theorem Zfb (op:Int) (w:World) :
  Calls Tryz.prog 242 #[.int .i64 op] w fun e w'=>e=.returned (.string (Zdu op))∧w'=w:=by
 go_enter Tryz.func242,Tryz.ntmps242
 go_wp2
 all_goals go_ret
 all_goals simp only [beq_iff_eq,beq_eq_false_iff_ne,ne_eq] at *
 all_goals exact ⟨by simp [Zdu, *],by first | rfl | trivial⟩
theorem Ziy (d:Int) (w:World) :
  Calls Tryz.prog 115 #[.int .i64 d] w fun e w'=>e=.returned (bif inB d 1 4 then .agg #[.int .i64 d,.slice none 0 0] else .agg #[.int .i64 0,.slice none 0 0])∧Below w.heap.size w w':=by
 by_cases h1:d<1
 ·have hr:Aside0 (inB d 1 4=false):=⟨by simp [inB];omega⟩
  have d1:=decide_eq_true h1
  clear h1
  go_enter Tryz.func115,Tryz.ntmps115
  go_wp2
  refine bodyPost_ret (results_cell_row rfl _ _ w.heap.size 109 #[.int .i64 0,.slice none 0 0] (0,0) _ rfl (by exact Zas w _) Tryz.underlying109 rfl (by kernel_rfl)) rfl ?_
  exact ⟨by first | rfl | (rw [hr.out];rfl),(brf_).alloc nlr_ _⟩
 ·have d1:=decide_eq_false h1
  by_cases h2:4<d
  ·have hr:Aside0 (inB d 1 4=false):=⟨by simp [inB];omega⟩
   have d2:=decide_eq_true h2
   clear h1 h2
   go_enter Tryz.func115,Tryz.ntmps115
   go_wp2
   refine bodyPost_ret (results_cell_row rfl _ _ w.heap.size 109 #[.int .i64 0,.slice none 0 0] (0,0) _ rfl (by exact Zas w _) Tryz.underlying109 rfl (by kernel_rfl)) rfl ?_
   exact ⟨by first | rfl | (rw [hr.out];rfl),(brf_).alloc nlr_ _⟩
  ·have hr:Aside0 (inB d 1 4=true):=⟨by simp [inB];omega⟩
   have d2:=decide_eq_false h2
   clear h1 h2
   go_enter Tryz.func115,Tryz.ntmps115
   go_wp2
   refine bodyPost_ret (results_cell_row rfl _ _ w.heap.size 109 #[.int .i64 d,.slice none 0 0] (0,0) _ rfl (by exact Zas w _) Tryz.underlying109 rfl (by kernel_rfl)) rfl ?_
   exact ⟨by first | rfl | (rw [hr.out];rfl),(brf_).alloc nlr_ _⟩
theorem Zhf (d:Int) (w:World) :
  Calls Tryz.prog 146 #[.int .i64 d] w fun e w'=>e=.returned (bif inB d 1 4 then .agg #[.int .i64 d,.slice none 0 0] else .agg #[.int .i64 0,.slice none 0 0])∧Below w.heap.size w w':=by
 have q:=fun w=>Zaz d 1 4 w
 cases h:inB d 1 4
 ·rw [h] at q
  have hr:Aside0 (inB d 1 4=false):=⟨h⟩
  clear h
  go_enter Tryz.func146,Tryz.ntmps146
  go_wp2_with (go_at_call 94;with_reducible refine (q _).mono ?_;rintro e w1 ⟨rfl,rfl⟩)
  refine bodyPost_ret (results_cell_row rfl _ _ w.heap.size 109 #[.int .i64 0,.slice none 0 0] (0,0) _ rfl (by exact Zas w _) Tryz.underlying109 rfl (by kernel_rfl)) rfl ?_
  exact ⟨by first | rfl | (rw [hr.out];rfl),(brf_).alloc nlr_ _⟩
 ·rw [h] at q
  have hr:Aside0 (inB d 1 4=true):=⟨h⟩
  clear h
  go_enter Tryz.func146,Tryz.ntmps146
  go_wp2_with (go_at_call 94;with_reducible refine (q _).mono ?_;rintro e w1 ⟨rfl,rfl⟩)
  refine bodyPost_ret (results_cell_row rfl _ _ w.heap.size 109 #[.int .i64 d,.slice none 0 0] (0,0) _ rfl (by exact Zas w _) Tryz.underlying109 rfl (by kernel_rfl)) rfl ?_
  exact ⟨by first | rfl | (rw [hr.out];rfl),(brf_).alloc nlr_ _⟩
theorem Zgn (d:Int) (w:World) :
  Calls Tryz.prog 116 #[.int .i64 d] w fun e w'=>e=.returned (bif inB d 1 60000 then .agg #[.int .i64 d,.int .i64 0,.int .i64 0,.int .i64 0] else .agg #[.int .i64 0,.int .i64 0,.int .i64 0,.int .i64 0])∧Below w.heap.size w w':=by
 by_cases h1:d<1
 ·have hr:Aside0 (inB d 1 60000=false):=⟨by simp [inB];omega⟩
  have d1:=decide_eq_true h1
  clear h1
  go_enter Tryz.func116,Tryz.ntmps116
  go_wp2
  refine bodyPost_ret (results_cell_row rfl _ _ w.heap.size 167 #[.int .i64 0,.int .i64 0,.int .i64 0,.int .i64 0] (0,0) _ rfl (by exact Zas w _) Tryz.underlying167 rfl (by kernel_rfl)) rfl ?_
  exact ⟨by first | rfl | (rw [hr.out];rfl),(brf_).alloc nlr_ _⟩
 ·have d1:=decide_eq_false h1
  by_cases h2:60000<d
  ·have hr:Aside0 (inB d 1 60000=false):=⟨by simp [inB];omega⟩
   have d2:=decide_eq_true h2
   clear h1 h2
   go_enter Tryz.func116,Tryz.ntmps116
   go_wp2
   refine bodyPost_ret (results_cell_row rfl _ _ w.heap.size 167 #[.int .i64 0,.int .i64 0,.int .i64 0,.int .i64 0] (0,0) _ rfl (by exact Zas w _) Tryz.underlying167 rfl (by kernel_rfl)) rfl ?_
   exact ⟨by first | rfl | (rw [hr.out];rfl),(brf_).alloc nlr_ _⟩
  ·have hr:Aside0 (inB d 1 60000=true):=⟨by simp [inB];omega⟩
   have d2:=decide_eq_false h2
   clear h1 h2
   go_enter Tryz.func116,Tryz.ntmps116
   go_wp2
   refine bodyPost_ret (results_cell_row rfl _ _ w.heap.size 167 #[.int .i64 d,.int .i64 0,.int .i64 0,.int .i64 0] (0,0) _ rfl (by exact Zas w _) Tryz.underlying167 rfl (by kernel_rfl)) rfl ?_
   exact ⟨by first | rfl | (rw [hr.out];rfl),(brf_).alloc nlr_ _⟩
theorem Zgo (d:Int) (w:World) :
  Calls Tryz.prog 143 #[.int .i64 d] w fun e w'=>e=.returned (bif inB d 1 60000 then .agg #[.int .i64 d,.int .i64 0,.int .i64 0,.int .i64 0] else .agg #[.int .i64 0,.int .i64 0,.int .i64 0,.int .i64 0])∧Below w.heap.size w w':=by
 have q:=fun w=>Zaz d 1 60000 w
 cases h:inB d 1 60000
 ·rw [h] at q
  have hr:Aside0 (inB d 1 60000=false):=⟨h⟩
  clear h
  go_enter Tryz.func143,Tryz.ntmps143
  go_wp2_with (go_at_call 94;with_reducible refine (q _).mono ?_;rintro e w1 ⟨rfl,rfl⟩)
  refine bodyPost_ret (results_cell_row rfl _ _ w.heap.size 167 #[.int .i64 0,.int .i64 0,.int .i64 0,.int .i64 0] (0,0) _ rfl (by exact Zas w _) Tryz.underlying167 rfl (by kernel_rfl)) rfl ?_
  exact ⟨by first | rfl | (rw [hr.out];rfl),(brf_).alloc nlr_ _⟩
 ·rw [h] at q
  have hr:Aside0 (inB d 1 60000=true):=⟨h⟩
  clear h
  go_enter Tryz.func143,Tryz.ntmps143
  go_wp2_with (go_at_call 94;with_reducible refine (q _).mono ?_;rintro e w1 ⟨rfl,rfl⟩)
  refine bodyPost_ret (results_cell_row rfl _ _ w.heap.size 167 #[.int .i64 d,.int .i64 0,.int .i64 0,.int .i64 0] (0,0) _ rfl (by exact Zas w _) Tryz.underlying167 rfl (by kernel_rfl)) rfl ?_
  exact ⟨by first | rfl | (rw [hr.out];rfl),(brf_).alloc nlr_ _⟩
theorem Zqh (n:Nat) (w:World) (hn1:1≤n) (h4:n≤4) :
  Calls Tryz.prog 113 #[.int .i64 n] w fun e w'=>(∃ (u1 u2:Value) (f:Nat→Nat),e=.returned (.agg #[u1,u2])∧Rw kInt 3 w' (fun k=>w.heap.size≤k∧f k=1) u1 (List.replicate n 0)∧Rw kInt 3 w' (fun k=>w.heap.size≤k∧f k=2) u2 (List.replicate n 0))∧Below w.heap.size w w':=by
 have hm:=fun w=>Zvf w n (by omega)
 have d1:decide ((n:Int)<1)=false:=decide_eq_false (by omega)
 have d2:decide ((4:Int)<(n:Int))=false:=decide_eq_false (by omega)
 go_enter Tryz.func113,Tryz.ntmps113
 go_wp2_with (fail)
 go_region
 ·go_wp2
  have hb0:=(Below.refl w.heap.size w).alloc nlr_ (.cells #[.slice (some ⟨w.heap.size+1,0,none⟩) n n,.slice (some ⟨w.heap.size+1+1,0,none⟩) n n] 96)
  have hb1:=hb0.alloc hb0.size (.cells (madeCells #[.int .i64 0] n) 3)
  have hb2:=hb1.alloc hb1.size (.cells (madeCells #[.int .i64 0] n) 3)
  refine bodyPost_ret (results_cell_row rfl _ _ w.heap.size 96 #[.slice (some ⟨w.heap.size+1,0,none⟩) n n,.slice (some ⟨w.heap.size+1+1,0,none⟩) n n] (0,0) _ rfl (by exact Zdb (Zal (Zal (Zas w _) _) _)) Tryz.underlying96 rfl (by kernel_rfl)) rfl ?_
  have r1:=Zaj (Zaj (Ziw (S:=fun k=>w.heap.size≤k∧(if k=w.heap.size+1 then 1 else 2)=1) (w.alloc (.cells #[.slice (some ⟨w.heap.size+1,0,none⟩) n n,.slice (some ⟨w.heap.size+1+1,0,none⟩) n n] 96)) (w.heap.size+1) n (by simp) ⟨by omega,if_pos rfl⟩ (by omega)) ((brf_).alloc nlr_ (.cells (madeCells #[.int .i64 0] n) 3))) (Zat (brf_))
  have r2:=Zaj (Ziw (S:=fun k=>w.heap.size≤k∧(if k=w.heap.size+1 then 1 else 2)=2) ((w.alloc (.cells #[.slice (some ⟨w.heap.size+1,0,none⟩) n n,.slice (some ⟨w.heap.size+1+1,0,none⟩) n n] 96)).alloc (.cells (madeCells #[.int .i64 0] n) 3)) (w.heap.size+1+1) n (by simp) ⟨by omega,if_neg (by omega)⟩ (by omega)) (Zat (brf_))
  exact ⟨⟨_,_,fun k=>if k=w.heap.size+1 then 1 else 2,rfl,r1,r2⟩,Zat hb2⟩
 ·go_wp2
  have hb0:=(Below.refl w.heap.size w).alloc nlr_ (.cells #[.slice (some ⟨w.heap.size+1+1,0,none⟩) n n,.slice (some ⟨w.heap.size+1,0,none⟩) n n] 96)
  have hb1:=hb0.alloc hb0.size (.cells (madeCells #[.int .i64 0] n) 3)
  have hb2:=hb1.alloc hb1.size (.cells (madeCells #[.int .i64 0] n) 3)
  refine bodyPost_ret (results_cell_row rfl _ _ w.heap.size 96 #[.slice (some ⟨w.heap.size+1+1,0,none⟩) n n,.slice (some ⟨w.heap.size+1,0,none⟩) n n] (0,0) _ rfl (by exact Zdb (Zal (Zal (Zas w _) _) _)) Tryz.underlying96 rfl (by kernel_rfl)) rfl ?_
  have r1:=Zaj (Zaj (Ziw (S:=fun k=>w.heap.size≤k∧(if k=w.heap.size+1 then 2 else 1)=2) (w.alloc (.cells #[.slice (some ⟨w.heap.size+1+1,0,none⟩) n n,.slice (some ⟨w.heap.size+1,0,none⟩) n n] 96)) (w.heap.size+1) n (by simp) ⟨by omega,if_pos rfl⟩ (by omega)) ((brf_).alloc nlr_ (.cells (madeCells #[.int .i64 0] n) 3))) (Zat (brf_))
  have r2:=Zaj (Ziw (S:=fun k=>w.heap.size≤k∧(if k=w.heap.size+1 then 2 else 1)=1) ((w.alloc (.cells #[.slice (some ⟨w.heap.size+1+1,0,none⟩) n n,.slice (some ⟨w.heap.size+1,0,none⟩) n n] 96)).alloc (.cells (madeCells #[.int .i64 0] n) 3)) (w.heap.size+1+1) n (by simp) ⟨by omega,if_neg (by omega)⟩ (by omega)) (Zat (brf_))
  exact ⟨⟨_,_,fun k=>if k=w.heap.size+1 then 2 else 1,rfl,r2,r1⟩,Zat hb2⟩
theorem Zqi (n:Nat) (w:World) (hn1:1≤n) (h4:n≤4) :
  Calls Tryz.prog 144 #[.int .i64 n] w fun e w'=>(∃ (u1 u2:Value) (f:Nat→Nat),e=.returned (.agg #[u1,u2])∧Rw kInt 3 w' (fun k=>w.heap.size≤k∧f k=1) u1 (List.replicate n 0)∧Rw kInt 3 w' (fun k=>w.heap.size≤k∧f k=2) u2 (List.replicate n 0))∧Below w.heap.size w w':=by
 have hb0:=(Below.refl w.heap.size w).alloc nlr_ (.cells #[.slice none 0 0,.slice none 0 0] 96)
 have q1:=Zev n (w.alloc (.cells #[.slice none 0 0,.slice none 0 0] 96)) (by omega)
 have q2:=fun w:World=>Zev n w (by omega)
 have q:∀ w:World,Calls Tryz.prog 94 #[.int .i64 n,.int .i64 1,.int .i64 4] w fun e w'=>e=.returned (.bool true)∧w'=w:=fun w=>(Zaz n 1 4 w).mono (fun e w1 h=>⟨h.1.trans (by rw [show inB (n:Int) 1 4=true by simp [inB];omega]),h.2⟩)
 go_enter Tryz.func144,Tryz.ntmps144
 go_wp2_with (first
  | (go_at_call 184;with_reducible refine (q2 _).mono ?_;rintro e w2 ⟨⟨v2,rfl,h2⟩,hb2⟩;obtain ⟨B2,d2,rfl,-,-⟩:=Zbl h2;have N2:=Zab N1 hb2;have e0:w2.cell? ⟨w.heap.size,0,none⟩=some (.slice none 0 0):=Zag N2 rfl;have e1:w2.cell? ⟨w.heap.size,1,none⟩=some (.slice none 0 0):=Zag N2 rfl;have f0:=Zad N2 0;have f1:=Zad N2 1)
  | (go_at_call 184;with_reducible refine q1.mono ?_;rintro e w1 ⟨⟨v1,rfl,h1⟩,hb1⟩;obtain ⟨B1,d1,rfl,-,-⟩:=Zbl h1;have N1:=Zab (Zas w _) hb1)
  | (go_at_call 94;with_reducible refine (q _).mono ?_;rintro e w1 ⟨rfl,rfl⟩))
 simp only [List.length_replicate] at *
 have hk:=(((Kep.refl (fun b=>b=w.heap.size) w2).set (g:=w.heap.size) (i:=0) rfl (.slice B1 n d1)).set (g:=w.heap.size) (i:=1) rfl (.slice B2 n d2))
 have hs1:w.heap.size+1≤w1.heap.size:=by have:=hb1.size;simpa using this
 have hs2:=hb2.size
 refine bodyPost_ret (results_cell_row rfl _ _ w.heap.size 96 #[.slice B1 n d1,.slice B2 n d2] (0,0) _ rfl (by exact (Zau (Zau N2 0 (.slice B1 n d1)) 1 (.slice B2 n d2))) Tryz.underlying96 rfl (by kernel_rfl)) rfl ?_
 have r1:=Zah (Zaj (Zaf h1) hb2) (fun b h hlt=>hk.block b hlt (fun e=>by have:=h.1;simp at this;omega))
 have r2:=Zah h2 (fun b h hlt=>hk.block b hlt (fun e=>by omega))
 refine ⟨⟨_,_,fun b=>if b<w1.heap.size then 1 else 2,rfl,Zae r1 (fun b h=>⟨by have:=h.1;simp at this;omega,if_pos h.2⟩),Zae r2 (fun b h=>⟨by omega,if_neg (by omega)⟩)⟩, ?_⟩
 exact ((hb0.trans (hb1.mono (by simp))).trans (hb2.mono (by omega))).trans ⟨hk.os,hk.tape,hk.output,hk.size,fun b hb=>hk.block b (by omega) (fun e=>by omega)⟩
end Go.Proofs.YtaeckoinpllpnaaGreat
