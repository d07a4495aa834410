/- Texts of the proof (DSt, DStep, DLoc, DNx, DTr, DTr2, DAll, DRe, DRgn, DRgn2, DRgn3, DChk, DCd, DCd2, DFnS, DCall, DFrz, DMath, DHp, DConf, DRaw, DBeg, DRow); no condition. -/
import Derived.Test.YtogdeblppihbnaaTopBytesFa
import Derived.Orders
import Derived.RowKit
import Derived.Laws.BitsLemmas
import Derived.KernelRfl
import Derived.Below
import Derived.WideShapes
import Derived.ChangeSlices
import Derived.ChangeShapes
set_option linter.unusedSimpArgs false
set_option linter.unusedVariables false
/- A state of a function's run,on both sides. -/
set_option linter.unusedVariables false
namespace Go.Proofs.D
open Go
structure Beg where
  base:Nat
  nr:Nat
  refs:Nat→List Nat
  w:World
  φ:Phi
  G:GH
structure StR (B:Beg) (φ:Phi) (β:Nat→Nat) (h:Hp) (tm:Nat→Option TV) (a:Act) (w:World):Prop where
  H:HRel B.base φ h w
  hb:B.base≤B.w.heap.size
  sl:∀ n x,tm n=some x→x≠.und→(∀ cs,x≠.box cs)→∃ v,a.tmps[n]? = some v∧TRel φ β x v
  bx:∀ n cs,tm n=some (.box cs)→B.nr≤n∧BoxR φ w (β n) cs∧B.w.heap.size≤β n∧¬ OwnB φ h (β n)
  inj:∀ n m cs ds,tm n=some (.box cs)→tm m=some (.box ds)→β n=β m→n=m
  rf:∀ n b off,tm n=some (.ref b off)→n∈B.refs b
  df:a.defers=[]
  sz:a.tmps.size=B.nr
  le:B.φ.le φ
  size:B.w.heap.size≤w.heap.size
  keep:∀ b,b<B.w.heap.size→¬ OwnB B.φ B.G.get b→w.heap[b]? = B.w.heap[b]?
  nb:∀ b,OwnB φ h b→OwnB B.φ B.G.get b∨B.w.heap.size≤b
  os:w.os=B.w.os
  tape:w.tape=B.w.tape
  output:w.output=B.w.output
section
variable {B:Beg} {P:Program} {φ ψ:Phi} {β γ:Nat→Nat} {h h':Hp} {tm tm':Nat→Option TV} {a:Act} {w w':World}
theorem StR.rd (S:StR B φ β h tm a w) {l:TM} {n:Nat} (hn:l[n]? = tm n):Rd φ β a l n:=fun x hx h1 h2=>S.sl n x (by rw [← hn];exact hx) h1 h2
theorem put_tmps {dst:Option Nat} {v:Value} {n:Nat} (h:n ∉ dst.toList):(a.put dst v).tmps[n]? = a.tmps[n]?:=by
  cases dst with
  | none=>rfl
  | some d=>simp at h;simp only [Act.put];rw [Array.getElem?_setIfInBounds_ne (fun e=>h e.symm)]
theorem put_self {d:Nat} {v:Value} (h:d<a.tmps.size):(a.put (some d) v).tmps[d]? = some v:=by
  simp only [Act.put];rw [Array.getElem?_setIfInBounds_self_of_lt h]
theorem put_defers (dst:Option Nat) (v:Value):(a.put dst v).defers=a.defers:=by cases dst <;> rfl
theorem put_size (dst:Option Nat) (v:Value):(a.put dst v).tmps.size=a.tmps.size:=by cases dst <;> simp [Act.put]
theorem StR.step (S:StR B φ β h tm a w) {dst:Option Nat} {v:Value} (l:φ.le ψ) (H':HRel B.base ψ h' w') (hsz:w.heap.size≤w'.heap.size)
    (hbox:∀ n cs,tm n=some (.box cs)→w'.heap[β n]? = w.heap[β n]?∧¬ OwnB ψ h' (β n))
    (hkeep:∀ b,b<B.w.heap.size→¬ OwnB B.φ B.G.get b→w'.heap[b]? = w.heap[b]?) (hnb:∀ b,OwnB ψ h' b→OwnB φ h b∨w.heap.size≤b)
    (h1:w'.os=w.os) (h2:w'.tape=w.tape) (h3:w'.output=w.output)
    (hd:∀ d,dst=some d→d<B.nr)
    (ho:∀ n,n ∉ dst.toList→tm' n=tm n)
    (hn:∀ d x,dst=some d→tm' d=some x→TRel ψ β x v∧∀ b off,x = .ref b off→d∈B.refs b):StR B ψ β h' tm' (a.put dst v) w' where
  H:=H'
  hb:=S.hb
  sl:=fun n x hx u1 u2=>by
    by_cases e:n∈dst.toList
    · cases dst with
      | none=>simp at e
      | some d =>
        simp at e;subst e
        exact ⟨v,put_self (by rw [S.sz];exact hd _ rfl),(hn _ x rfl hx).1⟩
    · rw [ho n e] at hx
      obtain ⟨u,hu,r⟩:=S.sl n x hx u1 u2
      exact ⟨u,by rw [put_tmps e];exact hu,r.mono l⟩
  bx:=fun n cs hx=>by
    by_cases e:n∈dst.toList
    · cases dst with
      | none=>simp at e
      | some d=>simp at e;subst e;exact (hn _ _ rfl hx).1.elim
    · rw [ho n e] at hx
      obtain ⟨k1,⟨c,el,hh,r⟩,k3,k4⟩:=S.bx n cs hx
      obtain ⟨m1,m2⟩:=hbox n cs hx
      exact ⟨k1,⟨c,el,by rw [m1];exact hh,r.mono fun _ _=>CRel.mono l⟩,k3,m2⟩
  inj:=fun n m cs ds hx hy e=>by
    have old:∀ n cs,tm' n=some (.box cs)→tm n=some (.box cs):=fun n cs hx=>by
      by_cases e:n∈dst.toList
      · cases dst with
        | none=>simp at e
        | some d=>simp at e;subst e;exact (hn _ _ rfl hx).1.elim
      · rw [ho n e] at hx;exact hx
    exact S.inj n m cs ds (old _ _ hx) (old _ _ hy) e
  rf:=fun n b off hx=>by
    by_cases e:n∈dst.toList
    · cases dst with
      | none=>simp at e
      | some d=>simp at e;subst e;exact (hn _ _ rfl hx).2 b off rfl
    · rw [ho n e] at hx;exact S.rf n b off hx
  df:=by rw [put_defers];exact S.df
  sz:=by rw [put_size];exact S.sz
  le:=S.le.trans l
  size:=Nat.le_trans S.size hsz
  keep:=fun b hb hn=>(hkeep b hb hn).trans (S.keep b hb hn)
  nb:=fun b hb=>by
    rcases hnb b hb with h | h
    · exact S.nb b h
    · right;have:=S.size;omega
  os:=h1.trans S.os
  tape:=h2.trans S.tape
  output:=h3.trans S.output
theorem StR.value (S:StR B φ β h tm a w) {dst:Option Nat} {v:Value} (hd:∀ d,dst=some d→d<B.nr) (ho:∀ n,n ∉ dst.toList→tm' n=tm n)
    (hn:∀ d x,dst=some d→tm' d=some x→TRel φ β x v∧∀ b off,x = .ref b off→d∈B.refs b):StR B φ β h tm' (a.put dst v) w :=
  S.step (.refl _) S.H (Nat.le_refl _) (fun n cs hx=>⟨rfl,(S.bx n cs hx).2.2.2⟩) (fun _ _ _=>rfl) (fun _ h=>.inl h) rfl rfl rfl hd ho hn
end
end Go.Proofs.D
/- One operation of a region,on both sides. -/
set_option linter.unusedVariables false
namespace Go.Proofs.D
open Go
def okGrd (mops:Array Oper) (mo:Oper) (o:DO):Bool:=match mo.guard,o.grd with
  | none,none=>true
  | some (g,w),some (d,w')=>(w == w')&&(match (mops[g]?).bind (·.dst) with
    | some d'=>Nat.beq d d'
    | none=>false)
  | _,_=>false
def okDst (nr:Nat):Option Nat→Option Nat→Bool
  | none,none=>true
  | some a,some b=>Nat.beq a b&&Nat.ble (b+1) nr
  | _,_=>false
def refsOf (tab:List (Nat×List Nat)) (b:Nat):List Nat:=match tab with
  | []=>[]
  | (c,l)::t=>match Nat.beq b c with
    | true=>l
    | false=>refsOf t b
def okRefs (nr:Nat) (tab:List (Nat×List Nat)) (o:DO):Bool:=match o.op with
  | .boxz b ders _ | .boxv b ders _ _=>Nat.ble nr b&&(match o.dst with
    | some d=>(refsOf tab b).contains d&&(refsOf tab b).all fun n=>Nat.beq n d||ders.contains n
    | none=>false)&&ders.all fun n=>Nat.ble (n+1) nr
  | .stL _ b _ _=>o.dst.isNone
  | .faddr a _ | .iaddrA a _ _ _=>(match o.dst with
    | some d=>tab.all fun p=>!p.2.contains a||p.2.contains d
    | none=>false)
  | _=>true
theorem refsOf_mem {tab:List (Nat×List Nat)} {a d:Nat} (h:tab.all (fun p=>!p.2.contains a||p.2.contains d)=true):∀ b,a∈refsOf tab b→d∈refsOf tab b:=by
  induction tab with
  | nil=>intro b h;simp [refsOf] at h
  | cons p t ih =>
    intro b ha
    simp only [List.all_cons,Bool.and_eq_true] at h
    obtain ⟨c,l⟩:=p
    simp only [refsOf] at ha ⊢
    split at ha
    · rename_i e;simp only at h
      have:=h.1
      simp only [Bool.or_eq_true,Bool.not_eq_true',List.contains_eq_mem,decide_eq_true_eq,decide_eq_false_iff_not] at this
      exact this.resolve_left (fun k=>k ha)
    · exact ih h.2 b ha
section
variable {B:Beg} {P:Program} {C:Call} {φ:Phi} {β:Nat→Nat} {h:Hp} {tmf:Nat→Option TV} {a:Act} {w:World} {tm tm':TM} {G G':GH} {mops:Array Oper} {mo:Oper} {o:DO} {tab:List (Nat×List Nat)}
def upd (tmf:Nat→Option TV) (o:DO) (tm':TM):Nat→Option TV:=fun n=>if n∈o.wr then tm'[n]? else tmf n
structure Aft (B:Beg) (φ:Phi) (G G':GH) (φ':Phi):Prop where
  le:φ.le φ'
  dom:∀ id,φ' id≠none→φ id≠none∨(G.next≤id∧id<G'.next)
theorem put_list {dst:Option Nat} {x:TV} {d:Nat} (h:dst=some d) {y:TV} (hy:(put tm dst x)[d]? = some y):y=x:=by
  subst h
  simp only [put,List.getElem?_set] at hy
  simp at hy
  exact hy.2.symm
theorem okDst_spec {nr:Nat} {x y:Option Nat} (h:okDst nr x y=true):x=y∧∀ d,y=some d→d<nr:=by
  unfold okDst at h
  split at h
  · exact ⟨rfl,fun d h=>by cases h⟩
  · simp only [Bool.and_eq_true,Nat.beq_eq,Nat.ble_eq] at h
    exact ⟨by rw [h.1],fun d hd=>by cases hd;omega⟩
  · cases h
theorem notL_wr {o:DO} (h:o.op.isL=false):o.wr=o.dst.toList:=by
  unfold DO.wr
  cases ho:o.op <;> simp [ho,DOp.isL] at h ⊢
theorem wanted_iff (S:StR B φ β h tmf a w) (hg:okGrd mops mo o=true) (hr:∀ n∈o.rds,tm[n]? = tmf n) :
    ((∀ g want,o.grd=some (g,want)→(tm[g]? = some .no∨tm[g]? = some (.v (.c (.bool (!want))))))→o.grd≠none→Region.wanted mo (yielded mops a.tmps)=false) ∧
    ((∀ g want,o.grd=some (g,want)→tm[g]? = some (.v (.c (.bool want))))→Region.wanted mo (yielded mops a.tmps)=true):=by
  unfold okGrd at hg
  split at hg
  · rename_i h1 h2
    exact ⟨fun _ h=>absurd h2 h,fun _=>by simp [Region.wanted,h1]⟩
  · rename_i g wa d wb h1 h2
    simp only [Bool.and_eq_true] at hg
    obtain ⟨hw,hd⟩:=hg
    have hw:wa=wb:=by simpa using hw
    subst hw
    have hdst:(mops[g]?).bind (·.dst)=some d:=by
      split at hd
      · rename_i d' e;rw [Nat.beq_eq] at hd;rw [e,hd]
      · cases hd
    have hmem:d∈o.rds:=by simp [DO.rds,h2]
    have hval:∀ x,tm[d]? = some x→x≠.und→(∀ cs,x≠.box cs)→∃ v,a.tmps[d]? = some v∧TRel φ β x v:=fun x hx=>S.sl d x (by rw [← hr d hmem];exact hx)
    refine ⟨fun hk _=>?_,fun hk=>?_⟩
    · have:=hk d wa h2
      unfold Region.wanted yielded
      rw [h1]
      simp only [hdst,Option.bind_some]
      rcases this with e | e
      · obtain ⟨v,hv,r⟩:=hval _ e (by simp) (by simp)
        simp only [TRel] at r;subst r
        rw [hv];rfl
      · obtain ⟨v,hv,r⟩:=hval _ e (by simp) (by simp)
        simp only [TRel,V1Rel,CRel] at r;subst r
        rw [hv];cases wa <;> rfl
    · have e:=hk d wa h2
      obtain ⟨v,hv,r⟩:=hval _ e (by simp) (by simp)
      simp only [TRel,V1Rel,CRel] at r;subst r
      unfold Region.wanted yielded
      rw [h1]
      simp only [hdst,Option.bind_some,hv]
      cases wa <;> rfl
  · cases hg
def StepOk (P:Program) (mops:Array Oper) (mo:Oper) (a:Act) (w:World) (T:Act→World→Prop):Prop :=
  ∀ (Q:Exit→Act→World→Prop) (K:Act→World→Prop),(∀ a' w',T a' w'→K a' w')→if Region.wanted mo (yielded mops a.tmps) then mo.wp P a w K Q∨(mo.asks P a w∧LetsOut Q) else K (a.put mo.dst undef) w
theorem step_skip (S:StR B φ β h tmf a w) (hg:okGrd mops mo o=true) (hdst:okDst B.nr mo.dst o.dst=true) (hr:∀ n∈o.rds,tm[n]? = tmf n) (hL:o.wr=o.dst.toList∨o.grd=none)
    (hc:(∀ g want,o.grd=some (g,want)→(tm[g]? = some .no∨tm[g]? = some (.v (.c (.bool (!want))))))∧o.grd≠none) :
    StepOk P mops mo a w fun a' w'=>StR B φ β h (upd tmf o (put tm o.dst .no)) a' w':=by
  intro Q K hK
  have hnw:=(wanted_iff S hg hr).1 hc.1 hc.2
  rw [hnw]
  simp only [Bool.false_eq_true,if_false]
  obtain ⟨e,hd⟩:=okDst_spec hdst
  have hwr:=hL.resolve_right hc.2
  rw [e]
  refine hK _ _ (S.value hd (fun n hn=>by unfold upd;rw [hwr,if_neg hn]) fun d x hdd hx=>?_)
  unfold upd at hx
  rw [hwr,if_pos (by simp [hdd])] at hx
  rw [put_list hdd hx]
  exact ⟨rfl,fun b off h=>by cases h⟩
theorem StepOk.run {T:Act→World→Prop} (S:StR B φ β h tmf a w) (hg:okGrd mops mo o=true) (hr:∀ n∈o.rds,tm[n]? = tmf n) (hc:∀ g want,o.grd=some (g,want)→tm[g]? = some (.v (.c (.bool want))))
    (hh:∀ (Q:Exit→Act→World→Prop) (K:Act→World→Prop),(∀ a' w',T a' w'→K a' w')→mo.wp P a w K Q):StepOk P mops mo a w T:=by
  intro Q K hK
  rw [(wanted_iff S hg hr).2 hc]
  simp only [if_true]
  exact .inl (hh Q K hK)
theorem rds_op {n:Nat} (h:n∈o.op.rd):n∈o.rds:=by unfold DO.rds;exact mem_r h
theorem step_pure {x:TV} (S:StR B φ β h tmf a w) (hdst:okDst B.nr mo.dst o.dst=true) (hL:o.op.isL=false) (hx:∀ b off,x≠.ref b off) (hp:PureOk P φ β a w mo G G' x) :
    ∀ (Q:Exit→Act→World→Prop) (K:Act→World→Prop),(∀ a' w',StR B φ β h (upd tmf o (put tm o.dst x)) a' w'→K a' w')→mo.wp P a w K Q:=by
  intro Q K hK
  obtain ⟨_,v,hrun,r⟩:=hp
  obtain ⟨e,hd⟩:=okDst_spec hdst
  have hwr:=notL_wr hL
  unfold Oper.wp
  rw [hrun]
  refine hK _ _ ?_
  rw [e]
  refine S.value hd (fun n hn=>by unfold upd;rw [hwr,if_neg hn]) fun d y hdd hy=>?_
  unfold upd at hy
  rw [hwr,if_pos (by simp [hdd])] at hy
  rw [put_list hdd hy]
  exact ⟨r,fun b off h=>absurd h (hx b off)⟩
theorem own_alloc {ψ:Phi} {h':Hp} {id:Nat} {L:Loc} {ob:Obj} (le:φ.le ψ) (H:HRel B.base φ h w) (hid:∀ j,j≠id→h' j=h j) (hL:ψ id=some L) (hblk:w.heap.size≤L.blk):∀ b,OwnB ψ h' b→OwnB φ h b∨w.heap.size≤b:=by
  intro b ⟨j,oj,M,hj,ko,hM,e⟩
  by_cases ej:j=id
  · subst ej;rw [hL] at hM;cases hM;right;omega
  · rw [hid j ej] at hj
    obtain ⟨M',hM',_⟩:=H.obj j oj hj
    have:=le _ _ hM';rw [hM] at this;cases this
    exact .inl ⟨j,oj,M,hj,ko,hM',e⟩
theorem step_alloc {x:TV} (S:StR B φ β h tmf a w) (hdst:okDst B.nr mo.dst o.dst=true) (hL:o.op.isL=false) (hx:∀ b off,x≠.ref b off) (hf:φ G.next=none) (h0:G.next≠0) (hp:AllocOk P φ β a w mo G G' x) :
    ∀ (Q:Exit→Act→World→Prop) (K:Act→World→Prop),(∀ a' w' ψ,Aft B φ G G' ψ→StR B ψ β (fun j=>if j=G.next then G'.get j else h j) (upd tmf o (put tm o.dst x)) a' w'→K a' w')→mo.wp P a w K Q:=by
  intro Q K hK
  obtain ⟨obj,v,O,lim,rfl,hown,hrun,hobj⟩:=hp
  obtain ⟨e,hd⟩:=okDst_spec hdst
  have hwr:=notL_wr hL
  have le:=Phi.le_put (φ:=φ) (id:=G.next) ⟨w.heap.size,0,lim⟩ hf
  obtain ⟨r,ho⟩:=hobj B.base (φ.put G.next ⟨w.heap.size,0,lim⟩) le (Phi.put_self _ _ _) h0 (Nat.le_trans S.hb S.size)
  unfold Oper.wp
  rw [hrun]
  have hget:(G.alloc obj).get G.next=some obj:=by rw [GH.get_alloc];simp
  refine hK _ _ (φ.put G.next ⟨w.heap.size,0,lim⟩) ⟨le,fun id hid=>?_⟩ ?_
  · unfold Phi.put at hid
    split at hid
    · rename_i e;right;rw [GH.next_alloc];omega
    · exact .inl hid
  · rw [e]
    have H':HRel B.base (φ.put G.next ⟨w.heap.size,0,lim⟩) (fun j=>if j=G.next then (G.alloc obj).get j else h j) (w.alloc O):=by
      refine S.H.step le h0 (Phi.put_self _ _ _) ho (by simp [hget]) fun j oj ne hj=>?_
      simp only [ne,if_false] at hj
      refine ⟨hj,fun M hM=>?_⟩
      obtain ⟨M',hM',k⟩:=S.H.obj j oj hj
      rw [hM] at hM';cases hM'
      have:=k.blk
      exact ⟨heap_alloc_old w O _ this,fun _ _=>by simp only;omega⟩
    have hnb:=own_alloc (B:=B) (ob:=obj) (h':=fun j=>if j=G.next then (G.alloc obj).get j else h j) (L:=⟨w.heap.size,0,lim⟩) le S.H (fun j hj=>by simp [hj]) (Phi.put_self _ _ _) (Nat.le_refl _)
    refine S.step le H' (by simp) (fun n cs hx=>?_) (fun b hb _=>?_) hnb rfl rfl rfl hd (fun n hn=>by unfold upd;rw [hwr,if_neg hn]) fun d y hdd hy=>?_
    · obtain ⟨_,⟨c,el,hh,_⟩,_,k4⟩:=S.bx n cs hx
      have hlt:=(Array.getElem?_eq_some_iff.1 hh).1
      refine ⟨heap_alloc_old w O _ hlt,fun hown=>?_⟩
      rcases hnb _ hown with h | h
      · exact k4 h
      · omega
    · have:=S.size;exact heap_alloc_old w O b (by omega)
    · unfold upd at hy
      rw [hwr,if_pos (by simp [hdd])] at hy
      rw [put_list hdd hy]
      exact ⟨r,fun b off h=>absurd h (hx b off)⟩
theorem step_act {x:TV} {h':Hp} {ex:Hp} (S:StR B φ β h tmf a w) (hdst:okDst B.nr mo.dst o.dst=true) (hL:o.op.isL=false) (hx:∀ b off,x≠.ref b off)
    (hsub:∀ id ob,G.get id=some ob→h id=some ob) (hex:∀ id,h id=(ex id).or (G.get id)) (hex0:∀ id,ex id≠none→G'.get id=none∧G.get id=none) (hh':∀ id,h' id=(ex id).or (G'.get id))
    (hp:ActOk P B.base φ β a w mo G G' x) :
    ∀ (Q:Exit→Act→World→Prop) (K:Act→World→Prop),(∀ a' w' ψ,Aft B φ G G' ψ→StR B ψ β h' (upd tmf o (put tm o.dst x)) a' w'→K a' w')→mo.wp P a w K Q:=by
  intro Q K hK
  refine hp Q K fun φ' v w' g r=>?_
  obtain ⟨e,hd⟩:=okDst_spec hdst
  have hwr:=notL_wr hL
  refine hK _ _ φ' ⟨g.le,g.dom⟩ ?_
  rw [e]
  have own_sub:∀ b,OwnB φ G.get b→OwnB φ h b:=fun b ⟨j,oj,M,hj,k⟩=>⟨j,oj,M,hsub _ _ hj,k⟩
  have exh:∀ id ob,ex id=some ob→h id=some ob:=fun id ob he=>by rw [hex,he];rfl
  have notown:∀ id ob L,ex id=some ob→φ id=some L→¬ OwnB φ G.get L.blk:=fun id ob L he hL ⟨j,oj,M,hj,ko,hM,e⟩=>by
    have hid:=exh id ob he
    cases ho:ob.own with
    | true =>
      have:=S.H.inj id j ob oj L M hid (hsub _ _ hj) ho ko hL hM e.symm
      subst this
      have:=(hex0 id (by simp [he])).2
      rw [this] at hj;cases hj
    | false =>
      obtain ⟨L',hL',k⟩:=S.H.obj id ob hid
      rw [hL] at hL';cases hL'
      obtain ⟨M',hM',k'⟩:=S.H.obj j oj (hsub _ _ hj)
      rw [hM] at hM';cases hM'
      have:=k.lt_base ho;have:=k'.base_le ko;omega
  have exkeep:∀ id ob L,ex id=some ob→φ id=some L→w'.heap[L.blk]? = w.heap[L.blk]?:=fun id ob L he hL=>by
    obtain ⟨L',hL',k⟩:=S.H.obj id ob (exh id ob he)
    rw [hL] at hL';cases hL'
    exact g.keep _ k.blk (notown id ob L he hL)
  have H':HRel B.base φ' h' w':=by
    refine ⟨?_,fun id ob hid=>?_,fun i j oi oj L M hi hj ki kj hL hM eb=>?_⟩
    · rw [hh']
      cases h0:ex 0 with
      | none=>exact g.H.zero
      | some ob=>have:=exh 0 ob h0;rw [S.H.zero] at this;cases this
    · rw [hh'] at hid
      cases hx:ex id with
      | some ob' =>
        rw [hx] at hid;simp at hid;subst hid
        obtain ⟨L,hL,k⟩:=S.H.obj id ob' (exh id ob' hx)
        exact ⟨L,g.le _ _ hL,k.keep g.le (exkeep id ob' L hx hL)⟩
      | none=>rw [hx] at hid;exact g.H.obj id ob hid
    · have part:∀ j oj M,h' j=some oj→φ' j=some M→(ex j=some oj∧φ j=some M)∨G'.get j=some oj:=fun j oj M hj hM=>by
        rw [hh'] at hj
        cases hx:ex j with
        | some ob =>
          rw [hx] at hj;simp at hj;subst hj
          obtain ⟨L,hL,_⟩:=S.H.obj j ob (exh j ob hx)
          have:=g.le _ _ hL;rw [hM] at this;cases this
          exact .inl ⟨rfl,hL⟩
        | none=>rw [hx] at hj;exact .inr hj
      have cross:∀ i j oi oj L M,ex i=some oi→φ i=some L→G'.get j=some oj→φ' j=some M→oj.own=true→L.blk≠M.blk:=fun i j oi oj L M hi hL hj hM ko eb=>by
        rcases g.nb M.blk ⟨j,oj,M,hj,ko,hM,rfl⟩ with k | k
        · exact notown i oi L hi hL (eb ▸ k)
        · obtain ⟨L',hL',k'⟩:=S.H.obj i oi (exh i oi hi)
          rw [hL] at hL';cases hL'
          have:=k'.blk;omega
      rcases part i oi L hi hL with ⟨a1,a2⟩ | a1 <;> rcases part j oj M hj hM with ⟨b1,b2⟩ | b1
      · exact S.H.inj i j oi oj L M (exh _ _ a1) (exh _ _ b1) ki kj a2 b2 eb
      · exact absurd eb (cross i j oi oj L M a1 a2 b1 hM kj)
      · exact absurd eb.symm (cross j i oj oi M L b1 b2 a1 hL ki)
      · exact g.H.inj i j oi oj L M a1 b1 ki kj hL hM eb
  have hnb:∀ b,OwnB φ' h' b→OwnB φ h b∨w.heap.size≤b:=fun b ⟨j,oj,M,hj,ko,hM,eb⟩=>by
    rw [hh'] at hj
    cases hx:ex j with
    | some ob =>
      rw [hx] at hj;simp at hj;subst hj
      obtain ⟨L,hL,_⟩:=S.H.obj j ob (exh j ob hx)
      have:=g.le _ _ hL;rw [hM] at this;cases this
      exact .inl ⟨j,ob,M,exh j ob hx,ko,hL,eb⟩
    | none =>
      rw [hx] at hj
      rcases g.nb b ⟨j,oj,M,hj,ko,hM,eb⟩ with k | k
      · exact .inl (own_sub b k)
      · exact .inr k
  refine S.step g.le H' g.sz (fun n cs hx=>?_) (fun b hb hn=>?_) hnb g.os g.tape g.output hd (fun n hn=>by unfold upd;rw [hwr,if_neg hn]) fun d y hdd hy=>?_
  · obtain ⟨_,⟨c,el,hh,_⟩,_,k4⟩:=S.bx n cs hx
    have hlt:=(Array.getElem?_eq_some_iff.1 hh).1
    refine ⟨g.keep _ hlt fun k=>k4 (own_sub _ k),fun hown=>?_⟩
    rcases hnb _ hown with h | h
    · exact k4 h
    · omega
  · refine g.keep b (by have:=S.size;omega) fun k=>?_
    rcases S.nb b (own_sub b k) with k | k
    · exact hn k
    · omega
  · unfold upd at hy
    rw [hwr,if_pos (by simp [hdd])] at hy
    rw [put_list hdd hy]
    exact ⟨r,fun b off h=>absurd h (hx b off)⟩
end
end Go.Proofs.D
/- Operations on local variables,on both sides. -/
set_option linter.unusedVariables false
namespace Go.Proofs.D
open Go
section
variable {B:Beg} {P:Program} {C:Call} {φ:Phi} {β:Nat→Nat} {h:Hp} {tmf:Nat→Option TV} {a:Act} {w:World} {tm tm':TM} {G G':GH} {mops:Array Oper} {mo:Oper} {o:DO} {tab:List (Nat×List Nat)}
theorem ders_und (ders:List Nat):∀ (tm:TM) (t:Nat),t∈ders→(ders.foldl (fun tm i=>tm.set i TV.und) tm)[t]? = some .und∨(ders.foldl (fun tm i=>tm.set i TV.und) tm)[t]? = none:=by
  induction ders with
  | nil=>intro tm t h;cases h
  | cons d ds ih =>
    intro tm t h
    rw [List.foldl_cons]
    by_cases hd:t∈ds
    · exact ih _ _ hd
    · have:t=d:=by cases h with
        | head=>rfl
        | tail _ h=>exact absurd h hd
      subst this
      rw [ders_get _ _ _ hd,List.getElem?_set]
      simp only [if_true]
      split
      · exact .inl rfl
      · exact .inr rfl
theorem step_box {b d:Nat} {ders:List Nat} {cs:List Cell} {arr:Array Value} {t:TypeId} (S:StR B φ β h tmf a w) (hrefs:B.refs=refsOf tab) (hd:d<B.nr) (hb:B.nr≤b) (hdr:d∈B.refs b) (hall:∀ n∈B.refs b,n=d∨n∈ders) (hders:∀ n∈ders,n<B.nr)
    (hwr:o.wr=d::b::ders) (r:R2 (CRel φ) cs arr.toList) (htm:tm' = ((ders.foldl (fun tm i=>tm.set i .und) tm).set b (.box cs)).set d (.ref b 0)) :
    StR B φ (fun n=>if n=b then w.heap.size else β n) h (upd tmf o tm') (a.put (some d) (.pointer (some ⟨w.heap.size,0,none⟩))) (w.alloc (.cells arr t)):=by
  have hdb:d≠b:=by omega
  have hw:∀ n,n∈o.wr↔n=d∨n=b∨n∈ders:=fun n=>by rw [hwr];simp
  have old:∀ n,n≠d→n≠b→n ∉ ders→upd tmf o tm' n=tmf n:=fun n h1 h2 h3=>by unfold upd;rw [if_neg (by rw [hw];simp [h1,h2,h3])]
  have atd:∀ x,upd tmf o tm' d=some x→x = .ref b 0:=fun x hx=>by
    unfold upd at hx;rw [if_pos (by rw [hw];exact .inl rfl),htm,List.getElem?_set] at hx
    simp at hx;exact hx.2.symm
  have atb:∀ x,upd tmf o tm' b=some x→x = .box cs:=fun x hx=>by
    unfold upd at hx;rw [if_pos (by rw [hw];exact .inr (.inl rfl)),htm,List.getElem?_set_ne hdb,List.getElem?_set] at hx
    simp at hx;exact hx.2.symm
  have atders:∀ n x,n≠d→n∈ders→upd tmf o tm' n=some x→x = .und:=fun n x h1 h2 hx=>by
    have hnb:n≠b:=by have:=hders n h2;omega
    unfold upd at hx;rw [if_pos (by rw [hw];exact .inr (.inr h2)),htm,List.getElem?_set_ne (fun e=>h1 e.symm),List.getElem?_set_ne (fun e=>hnb e.symm)] at hx
    rcases ders_und ders tm n h2 with e | e
    · rw [e] at hx;simp at hx;exact hx.symm
    · rw [e] at hx;cases hx
  have refb:∀ n c off,tmf n=some (.ref c off)→n≠d→n ∉ ders→c≠b:=fun n c off hx h1 h2 e=>by
    subst e
    rcases hall n (S.rf n c off hx) with k | k
    · exact h1 k
    · exact h2 k
  have hH:HRel B.base φ h (w.alloc (.cells arr t)):=S.H.keep (.refl _) fun id ob L ho hL=>by
    obtain ⟨L',hL',k⟩:=S.H.obj id ob ho
    rw [hL] at hL';cases hL'
    exact heap_alloc_old w _ _ k.blk
  have own_lt:∀ k,OwnB φ h k→k<w.heap.size:=fun k ⟨j,oj,M,hj,ko,hM,e⟩=>by
    obtain ⟨M',hM',k'⟩:=S.H.obj j oj hj
    rw [hM] at hM';cases hM'
    have:=k'.blk;omega
  have box_lt:∀ n cs,tmf n=some (.box cs)→β n<w.heap.size:=fun n cs hx=>by
    obtain ⟨_,⟨c,el,hh,_⟩,_⟩:=S.bx n cs hx
    exact (Array.getElem?_eq_some_iff.1 hh).1
  have boxes:∀ n ds,upd tmf o tm' n=some (.box ds)→(n=b∧ds=cs)∨(n≠b∧tmf n=some (.box ds)):=fun n ds hx=>by
    by_cases h1:n=b
    · subst h1;have:=atb _ hx;cases this;exact .inl ⟨rfl,rfl⟩
    · by_cases h2:n=d
      · subst h2;have:=atd _ hx;cases this
      · by_cases h3:n∈ders
        · have:=atders n _ h2 h3 hx;cases this
        · rw [old n h2 h1 h3] at hx;exact .inr ⟨h1,hx⟩
  refine ⟨hH,S.hb,fun n x hx u1 u2=>?_,fun n ds hx=>?_,fun n m cs1 cs2 hx hy e=>?_,fun n c off hx=>?_,by rw [put_defers];exact S.df,by rw [put_size];exact S.sz,S.le,by simp;have:=S.size;omega,fun k hk hn=>?_,S.nb,S.os,S.tape,S.output⟩
  · by_cases h2:n=d
    · subst h2
      have:=atd _ hx;subst this
      exact ⟨_,put_self (by rw [S.sz];exact hd),by simp [TRel]⟩
    · by_cases h1:n=b
      · subst h1;have:=atb _ hx;exact absurd this (u2 _)
      · by_cases h3:n∈ders
        · exact absurd (atders n _ h2 h3 hx) u1
        · rw [old n h2 h1 h3] at hx
          obtain ⟨v,hv,r⟩:=S.sl n x hx u1 u2
          refine ⟨v,by rw [put_tmps (by simp;exact fun e=>h2 e)];exact hv,?_⟩
          cases x with
          | ref c off =>
            have:=refb n c off hx h2 h3
            simp only [TRel] at r ⊢
            rw [if_neg this];exact r
          | _=>exact r
  · rcases boxes n ds hx with ⟨rfl,rfl⟩ | ⟨hnb,hx⟩
    · refine ⟨hb,⟨arr,t,by simp only [if_true];exact heap_alloc_new w _,r⟩,by simp only [if_true];exact S.size,fun hown=>?_⟩
      simp only [if_true] at hown
      have:=own_lt _ hown;omega
    · obtain ⟨k1,⟨c,el,hh,rr⟩,k3,k4⟩:=S.bx n ds hx
      have:=box_lt n ds hx
      simp only [hnb,if_false]
      exact ⟨k1,⟨c,el,by rw [heap_alloc_old w _ _ this];exact hh,rr⟩,k3,k4⟩
  · rcases boxes n _ hx with ⟨rfl,rfl⟩ | ⟨hnb,hx⟩ <;> rcases boxes m _ hy with ⟨rfl,rfl⟩ | ⟨hmb,hy⟩
    · rfl
    · simp only [if_true,hmb,if_false] at e;have:=box_lt m _ hy;omega
    · simp only [if_true,hnb,if_false] at e;have:=box_lt n _ hx;omega
    · simp only [hnb,hmb,if_false] at e;exact S.inj n m _ _ hx hy e
  · by_cases h2:n=d
    · subst h2
      have:=atd _ hx;cases this;exact hdr
    · by_cases h1:n=b
      · subst h1;have:=atb _ hx;cases this
      · by_cases h3:n∈ders
        · have:=atders n _ h2 h3 hx;cases this
        · rw [old n h2 h1 h3] at hx;exact S.rf n c off hx
  · rw [heap_alloc_old w _ _ (by have:=S.size;omega)];exact S.keep k hk hn
theorem step_loc (S:StR B φ β h tmf a w) (hrefs:B.refs=refsOf tab) (hok:okOp P B.nr mo o.op=true) (hdst:okDst B.nr mo.dst o.dst=true) (hro:okRefs B.nr tab o=true) (hL:o.op.isL=true) (hr:∀ n∈o.rds,tm[n]? = tmf n) (hx:opLD tm o.dst o.op=some tm') :
    ∀ (Q:Exit→Act→World→Prop) (K:Act→World→Prop),(∀ a' w' β',StR B φ β' h (upd tmf o tm') a' w'→K a' w')→mo.wp P a w K Q:=by
  intro Q K hK
  obtain ⟨ed,hd⟩:=okDst_spec hdst
  have hrd:∀ n∈o.op.rd,Rd φ β a tm n:=fun n hn=>S.rd (hr n (rds_op hn))
  obtain ⟨ix,dst,op,grd⟩:=o
  simp only at *
  have wr1:∀ {d:Nat} {x:TV} {v:Value},dst=some d→(DO.mk ix dst op grd).wr=dst.toList→tm' = tm.set d x→(execOp a.eval mo).run P w = .ok (.value v) w→TRel φ β x v→(∀ b off,x = .ref b off→d∈B.refs b)→mo.wp P a w K Q:=by
    intro d x v hdd hwr htm hrun r hrf
    unfold Oper.wp
    rw [hrun]
    refine hK _ _ β ?_
    rw [ed]
    refine S.value hd (fun n hn=>by unfold upd;rw [hwr,if_neg hn]) fun d' y hd' hy=>?_
    rw [hdd] at hd';cases hd'
    unfold upd at hy
    rw [hwr,if_pos (by simp [hdd]),htm,List.getElem?_set] at hy
    simp at hy
    obtain ⟨_,rfl⟩:=hy
    exact ⟨r,hrf⟩
  cases op <;> simp only [DOp.isL] at hL <;> try (cases hL;done)
  case boxz b ders cs =>
    simp only [opLD,opL] at hx
    cases dst with
    | none=>cases hx
    | some d =>
      simp at hx
      simp only [okRefs,Bool.and_eq_true,Nat.ble_eq,List.all_eq_true,Bool.or_eq_true,Nat.beq_eq,List.contains_eq_mem,decide_eq_true_eq] at hro
      obtain ⟨⟨hb,h1,h2⟩,h3⟩:=hro
      simp only [okOp] at hok
      split at hok
      · rename_i t ho
        obtain ⟨i,z,hi,hz,hsz,hcs⟩:=tZero_info hok
        have hrun:(execOp a.eval mo).run P w = .ok (.value (.pointer (some ⟨w.heap.size,0,none⟩))) (w.alloc (.cells z.cells t)):=by simp [execOp,ho,Instr.alloc,zeroValue,typeInfo,hi,hz,newVar,newRow]
        unfold Oper.wp
        rw [hrun]
        refine hK _ _ (fun n=>if n=b then w.heap.size else β n) ?_
        rw [ed]
        exact step_box (tab:=tab) S hrefs (hd d rfl) hb (by rw [hrefs];exact h1) (by rw [hrefs];exact h2) (fun n hn=>by have:=h3 n hn;omega) (by simp [DO.wr]) (okCells_rel hcs) hx.symm
      · cases hok
  case boxv b ders x n =>
    simp only [opLD,opL] at hx
    obtain ⟨v,hv,hx⟩:=Option.bind_eq_some_iff.1 hx
    obtain ⟨_,hx⟩:=chk_some hx
    cases dst with
    | none=>cases hx
    | some d =>
      simp at hx
      simp only [okRefs,Bool.and_eq_true,Nat.ble_eq,List.all_eq_true,Bool.or_eq_true,Nat.beq_eq,List.contains_eq_mem,decide_eq_true_eq] at hro
      obtain ⟨⟨hb,h1,h2⟩,h3⟩:=hro
      simp only [okOp] at hok
      split at hok
      · rename_i t y ho
        have rv:=(src_val (a:=a) (φ:=φ) hok hv fun m hm=>hrd m hm).cells
        have hrun:(execOp a.eval mo).run P w = .ok (.value (.pointer (some ⟨w.heap.size,0,none⟩))) (w.alloc (.cells (a.eval y).cells t)):=by simp [execOp,ho,Instr.box,newVar,newRow]
        unfold Oper.wp
        rw [hrun]
        refine hK _ _ (fun n=>if n=b then w.heap.size else β n) ?_
        rw [ed]
        exact step_box (tab:=tab) S hrefs (hd d rfl) hb (by rw [hrefs];exact h1) (by rw [hrefs];exact h2) (fun n hn=>by have:=h3 n hn;omega) (by simp [DO.wr]) rv hx.symm
      · cases hok
  case ldL y b s =>
    obtain ⟨d,x,v,hdd,htm,hrun,r⟩:=sound_ldL (a:=a) (φ:=φ) (β:=β) (w:=w) hok hx (hrd y (by simp [DOp.rd])) (fun cs hcs=>(S.bx b cs (by rw [← hr b (rds_op (by simp [DOp.rd]))];exact hcs)).2.1)
    exact wr1 hdd (by simp [DO.wr]) htm hrun r (fun b off e=>by cases e)
  case stL y b x n =>
    obtain ⟨cs,c,c',e,htm,hh,hrun,r⟩:=sound_stL (a:=a) (φ:=φ) (β:=β) (w:=w) hok hx (fun m hm=>hrd m (by simp [DOp.rd];rcases hm with h | h;exact .inl h;exact .inr (.inr h))) (fun cs hcs=>(S.bx b cs (by rw [← hr b (rds_op (by simp [DOp.rd]))];exact hcs)).2.1)
    simp only [okRefs] at hro
    have hn:dst=none:=by cases dst <;> simp at hro ⊢
    subst hn
    unfold Oper.wp
    rw [hrun]
    refine hK _ _ β ?_
    have hwr:(DO.mk ix none (DOp.stL y b x n) grd).wr=[b]:=by simp [DO.wr]
    rw [ed];simp only [Act.put]
    have old:∀ k,k≠b→upd tmf (DO.mk ix none (DOp.stL y b x n) grd) tm' k=tmf k:=fun k h=>by unfold upd;rw [if_neg];simpa [DO.wr] using h
    have atb:∀ x',upd tmf (DO.mk ix none (DOp.stL y b x n) grd) tm' b=some x'→x' = .box cs:=fun x' hx'=>by
      unfold upd at hx'
      rw [if_pos (by rw [hwr];simp),htm,List.getElem?_set] at hx'
      simp at hx';exact hx'.2.symm
    have hbox:∃ ds,tmf b=some (.box ds):=by
      simp only [opLD,opL] at hx
      split at hx
      · rename_i b' off ds hm hmb;exact ⟨ds,by rw [← hr b (rds_op (by simp [DOp.rd]))];exact hmb⟩
      · cases hx
    obtain ⟨ds,hds⟩:=hbox
    obtain ⟨k1,_,k3,k4⟩:=S.bx b ds hds
    have bxs:∀ m es,upd tmf (DO.mk ix none (DOp.stL y b x n) grd) tm' m=some (.box es)→(m=b∧es=cs)∨(m≠b∧tmf m=some (.box es)):=fun m es hm=>by
      by_cases e:m=b
      · subst e;have:=atb _ hm;cases this;exact .inl ⟨rfl,rfl⟩
      · rw [old m e] at hm;exact .inr ⟨e,hm⟩
    have keepOwn:∀ k,k≠β b→(w.setRow (β b) c').heap[k]? = w.heap[k]?:=fun k hk=>setRow_keep w _ _ _ hk
    have slot:∀ m x',upd tmf (DO.mk ix none (DOp.stL y b x n) grd) tm' m=some x'→(∀ es,x'≠.box es)→tmf m=some x':=fun m x' hm hb=>by
      by_cases e:m=b
      · subst e;exact absurd (atb _ hm) (hb _)
      · rw [old m e] at hm;exact hm
    refine ⟨S.H.keep (.refl _) fun id ob L ho hL=>keepOwn _ fun e=>?_,S.hb,fun m x' hm u1 u2=>S.sl m x' (slot m x' hm u2) u1 u2,fun m es hm=>?_,fun m m' es es' hm hm' e=>?_,fun m c off hm=>S.rf m c off (slot m _ hm fun es e=>by cases e),S.df,S.sz,S.le,by rw [size_setRow];exact S.size,fun k hk hn=>?_,S.nb,S.os,S.tape,S.output⟩
    · cases ho':ob.own with
      | true=>exact k4 ⟨id,ob,L,ho,ho',hL,e⟩
      | false =>
        obtain ⟨L',hL',k⟩:=S.H.obj id ob ho
        rw [hL] at hL';cases hL'
        have:=k.lt_base ho'
        have:=S.hb;omega
    · rcases bxs m es hm with ⟨rfl,rfl⟩ | ⟨hmb,hm⟩
      · exact ⟨k1,⟨c',e,setRow_heap w _ c _ e _ hh,r⟩,k3,k4⟩
      · obtain ⟨m1,⟨cc,el,mh,rr⟩,m3,m4⟩:=S.bx m es hm
        exact ⟨m1,⟨cc,el,by rw [keepOwn _ fun e=>hmb (S.inj m b _ _ hm hds e)];exact mh,rr⟩,m3,m4⟩
    · rcases bxs m es hm with ⟨rfl,rfl⟩ | ⟨h2,h3⟩ <;> rcases bxs m' es' hm' with ⟨rfl,rfl⟩ | ⟨h4,h5⟩
      · rfl
      · exact S.inj _ _ _ _ hds h5 e
      · exact S.inj _ _ _ _ h3 hds e
      · exact S.inj _ _ _ _ h3 h5 e
    · rw [keepOwn k (by omega)];exact S.keep k hk hn
  case faddr y off =>
    obtain ⟨d,x,v,hdd,htm,hrun,r,hk⟩:=sound_faddr (a:=a) (φ:=φ) (β:=β) (w:=w) hok hx hrd
    refine wr1 hdd (by simp [DO.wr]) htm hrun r fun b off' e=>?_
    rcases hk with ⟨b',k,k',e',hy⟩ | ⟨i,k,e'⟩
    · rw [e'] at e;cases e
      have hyr:=S.rf y b k' (by rw [← hr y (rds_op (by simp [DOp.rd]))];exact hy)
      simp only [okRefs,hdd] at hro
      rw [hrefs] at hyr ⊢
      exact refsOf_mem hro b hyr
    · rw [e'] at e;cases e
  case iaddrA y i len es =>
    obtain ⟨d,x,v,hdd,htm,hrun,r,hk⟩:=sound_iaddrA (a:=a) (φ:=φ) (β:=β) (w:=w) hok hx hrd
    refine wr1 hdd (by simp [DO.wr]) htm hrun r fun b off' e=>?_
    rcases hk with ⟨b',k,k',e',hy⟩ | ⟨i,k,e'⟩
    · rw [e'] at e;cases e
      have hyr:=S.rf y b k' (by rw [← hr y (rds_op (by simp [DOp.rd]))];exact hy)
      simp only [okRefs,hdd] at hro
      rw [hrefs] at hyr ⊢
      exact refsOf_mem hro b hyr
    · rw [e'] at e;cases e
end
end Go.Proofs.D
/- How the machine's heap may change: it grows,and nothing lies where nothing was made. -/
set_option linter.unusedVariables false
namespace Go.Proofs.D
open Go
def Pres (G G':GH):Prop:=G.wf→G'.wf∧G.next≤G'.next
def PresC (C:Call):Prop:=∀ f args G vs G',C f args G=some (vs,G')→Pres G G'
theorem Pres.refl (G:GH):Pres G G:=fun h=>⟨h,Nat.le_refl _⟩
theorem Pres.trans {G G' G'':GH} (h:Pres G G') (h':Pres G' G''):Pres G G'':=fun w=>let ⟨a,b⟩:=h w;let ⟨c,d⟩:=h' a;⟨c,Nat.le_trans b d⟩
section
variable {C:Call} {tm tm':TM} {G G':GH}
theorem go_same {R:Type} (K:TV→GH→Option R) (g:Int→Int→Int):∀ (xs:List Src) (a:Int),opK.go tm G K xs a g=opK.go tm G (fun v _=>K v G) xs a g
  | [],_=>rfl
  | x::xs,a=>by simp only [opK.go,go_same K g xs]
theorem opK_same {R:Type} (K:TV→GH→Option R) {op:DOp} (h1:op.kl≠.al) (h2:op.kl≠.act):opK C tm G K op=opK C tm G (fun v _=>K v G) op:=by
  cases op <;> first | rfl | exact absurd rfl h1 | exact absurd rfl h2 | skip
  case mx x xs=>simp only [opK,go_same K mx2]
  case mn x xs=>simp only [opK,go_same K mn2]
theorem opD_same {op:DOp} {u:TV} (h1:op.kl≠.al) (h2:op.kl≠.act) (h:opD C tm G op=some (u,G')):G' = G:=by
  have e:=opK_same (C:=C) (tm:=tm) (G:=G) (fun v G=>some (v,G)) h1 h2
  rw [opK_eq C tm G (fun v _=>some (v,G))] at e
  have h':opK C tm G (fun v G=>some (v,G)) op=some (u,G'):=h
  rw [h',h] at e
  simp at e
  exact e
theorem own_get {id:Nat} {cs:List Cell} (h:G.own id=some cs):G.get id=some (.row cs false):=by
  unfold GH.own at h
  split at h
  · rename_i e;cases h;exact e
  · cases h
theorem ents_get {ks:VS} {id:Nat} {es:List (V1×V1)} (h:G.ents ks id=some es):∃ ks',G.get id=some (.map ks' es):=by
  unfold GH.ents at h
  split at h
  · rename_i e;split at h
    · cases h;exact ⟨_,e⟩
    · cases h
  · cases h
theorem pres_set {id:Nat} {o:Obj} {o':Option Obj} (h:G.get id=some o):Pres G (G.set id o'):=fun w=>⟨wf_set' w h,Nat.le_refl _⟩
theorem pres_alloc (o:Obj):Pres G (G.alloc o):=fun w=>⟨wf_alloc w o,by rw [GH.next_alloc];omega⟩
theorem pres_sts {id off:Nat} {new:List Cell} (h:G.sts id off new=some G'):Pres G G':=by
  unfold GH.sts at h
  obtain ⟨cs,hcs,h⟩:=Option.bind_eq_some_iff.1 h
  split at h
  · cases h;exact pres_set (own_get hcs)
  · cases h
theorem pres_app {id off len es m:Nat} {new:List Cell} {i o:Nat} (h:G.app id off len es m new=some (i,o,G')):Pres G G':=by
  unfold GH.app at h
  split at h
  · cases h;exact .refl _
  · split at h
    · cases h;exact pres_alloc _
    · obtain ⟨cs,hcs,h⟩:=Option.bind_eq_some_iff.1 h
      split at h
      · cases h;exact (pres_set (own_get hcs)).trans (pres_alloc _)
      · split at h
        · cases h;exact pres_set (own_get hcs)
        · cases h
theorem results_heap {out:List V1} {G2:GH} {u:TV} {rs:List VS}
    (h:(match rs with | [s]=>vsK s (out[0]?) fun v=>some (TV.v v,G2) | rs=>resK (fun i=>out[i]?) (fun vs=>some (TV.tup vs,G2)) rs 0)=some (u,G')):G' = G2:=by
  have e:(match rs with | [s]=>vsK s (out[0]?) fun v=>some (TV.v v,G2) | rs=>resK (fun i=>out[i]?) (fun vs=>some (TV.tup vs,G2)) rs 0) =
      (match rs with | [s]=>vsK s (out[0]?) fun v=>some (TV.v v) | rs=>resK (fun i=>out[i]?) (fun vs=>some (TV.tup vs)) rs 0).bind fun t=>some (t,G2):=by
    split <;> simp only [vsK_bind,resK_bind,Option.bind_some]
  rw [e] at h
  obtain ⟨t,_,h⟩:=Option.bind_eq_some_iff.1 h
  simp at h;exact h.2.symm
theorem opD_pres (hC:PresC C) {op:DOp} {u:TV} (h:opD C tm G op=some (u,G')):Pres G G':=by
  by_cases h1:op.kl = .al
  · obtain ⟨o,rfl⟩:=opD_al h1 h;exact pres_alloc o
  · by_cases h2:op.kl = .act
    · cases op <;> simp [DOp.kl] at h2 <;> simp only [opD,opK] at h
      case sbytes x =>
        obtain ⟨l,_,h⟩:=Option.bind_eq_some_iff.1 h
        simp only [Option.some.injEq,Prod.mk.injEq] at h;obtain ⟨_,rfl⟩:=h;exact pres_alloc _
      case stG a x n =>
        split at h
        · obtain ⟨v,_,h⟩:=Option.bind_eq_some_iff.1 h
          obtain ⟨_,h⟩:=chk_some h
          obtain ⟨G2,hG,h⟩:=Option.bind_eq_some_iff.1 h
          simp at h;obtain ⟨_,rfl⟩:=h;exact pres_sts hG
        · cases h
      case app x y es bytes =>
        simp only [sK] at h
        obtain ⟨p,_,h⟩:=Option.bind_eq_some_iff.1 h
        obtain ⟨q,_,h⟩:=Option.bind_eq_some_iff.1 h
        obtain ⟨new,_,h⟩:=Option.bind_eq_some_iff.1 h
        obtain ⟨_,h⟩:=guardK_some h
        obtain ⟨⟨i,o,G2⟩,hG,h⟩:=Option.bind_eq_some_iff.1 h
        simp at h;obtain ⟨_,rfl⟩:=h;exact pres_app hG
      case copy x y es =>
        simp only [sK] at h
        obtain ⟨p,_,h⟩:=Option.bind_eq_some_iff.1 h
        obtain ⟨q,_,h⟩:=Option.bind_eq_some_iff.1 h
        split at h
        · simp at h;obtain ⟨_,rfl⟩:=h;exact .refl _
        · obtain ⟨new,_,h⟩:=Option.bind_eq_some_iff.1 h
          obtain ⟨G2,hG,h⟩:=Option.bind_eq_some_iff.1 h
          simp at h;obtain ⟨_,rfl⟩:=h;exact pres_sts hG
      case clear x zero =>
        simp only [sK] at h
        obtain ⟨p,_,h⟩:=Option.bind_eq_some_iff.1 h
        split at h
        · simp at h;obtain ⟨_,rfl⟩:=h;exact .refl _
        · obtain ⟨G2,hG,h⟩:=Option.bind_eq_some_iff.1 h
          simp at h;obtain ⟨_,rfl⟩:=h;exact pres_sts hG
      case mupd ks m key x =>
        obtain ⟨m,_,h⟩:=Option.bind_eq_some_iff.1 h
        obtain ⟨key,_,h⟩:=Option.bind_eq_some_iff.1 h
        obtain ⟨x,_,h⟩:=Option.bind_eq_some_iff.1 h
        obtain ⟨_,h⟩:=chk_some h
        obtain ⟨es,he,h⟩:=Option.bind_eq_some_iff.1 h
        simp at h;obtain ⟨_,rfl⟩:=h
        obtain ⟨_,e⟩:=ents_get he
        exact pres_set e
      case del ks m key =>
        obtain ⟨m,_,h⟩:=Option.bind_eq_some_iff.1 h
        obtain ⟨key,_,h⟩:=Option.bind_eq_some_iff.1 h
        obtain ⟨_,h⟩:=chk_some h
        obtain ⟨es,he,h⟩:=Option.bind_eq_some_iff.1 h
        simp at h;obtain ⟨_,rfl⟩:=h
        obtain ⟨_,e⟩:=ents_get he
        exact pres_set e
      case call f args rs =>
        obtain ⟨vs,_,h⟩:=Option.bind_eq_some_iff.1 h
        obtain ⟨⟨out,G2⟩,hc,h⟩:=Option.bind_eq_some_iff.1 h
        rw [results_heap h];exact hC _ _ _ _ _ hc
      case callT x args rs =>
        obtain ⟨f,_,h⟩:=Option.bind_eq_some_iff.1 h
        obtain ⟨vs,_,h⟩:=Option.bind_eq_some_iff.1 h
        obtain ⟨⟨out,G2⟩,hc,h⟩:=Option.bind_eq_some_iff.1 h
        obtain ⟨_,h⟩:=chk_some h
        rw [results_heap h];exact hC _ _ _ _ _ hc
    · rw [opD_same h1 h2 h];exact .refl _
theorem stepD_pres (hC:PresC C) {o:DO} (h:stepD C o tm G=some (tm',G')):Pres G G':=by
  rcases stepD_cases h with ⟨_,_,_,rfl⟩ | ⟨_,h⟩
  · exact .refl _
  · unfold goD at h
    split at h
    · simp at h;obtain ⟨x,hx,rfl,rfl⟩:=h;exact .refl _
    · obtain ⟨⟨x,G2⟩,hx,h⟩:=Option.map_eq_some_iff.1 h;cases h;exact opD_pres hC hx
theorem isL_kl {op:DOp} (h:op.isL=true):op.kl = .loc:=by cases op <;> simp [DOp.isL,DOp.kl] at h ⊢
theorem stepD_same {o:DO} (h1:o.op.kl≠.al) (h2:o.op.kl≠.act) (h:stepD C o tm G=some (tm',G')):G' = G:=by
  rcases stepD_cases h with ⟨_,_,_,e⟩ | ⟨_,h⟩
  · exact e
  · unfold goD at h
    split at h
    · simp at h;obtain ⟨x,hx,rfl,rfl⟩:=h;rfl
    · obtain ⟨⟨x,G2⟩,hx,h⟩:=Option.map_eq_some_iff.1 h;cases h;exact opD_same h1 h2 hx
theorem stepD_al {o:DO} (h1:o.op.kl = .al) (h:stepD C o tm G=some (tm',G')):G' = G∨∃ ob,G' = G.alloc ob:=by
  rcases stepD_cases h with ⟨_,_,_,e⟩ | ⟨_,h⟩
  · exact .inl e
  · unfold goD at h
    split at h
    · simp at h;obtain ⟨x,hx,rfl,rfl⟩:=h;exact .inl rfl
    · obtain ⟨⟨x,G2⟩,hx,h⟩:=Option.map_eq_some_iff.1 h;cases h;exact .inr (opD_al h1 hx)
end
end Go.Proofs.D
/- What the slots and the heap hold when some of a region's operations have been done: in no order of the machine's. -/
set_option linter.unusedVariables false
namespace Go.Proofs.D
open Go
def apartOk (items:List DO) (i j:Nat) (x y:DO):Bool :=
  disj x.wr y.rds&&disj x.wr y.wr&&disj x.rds y.wr &&
  match x.op.kl,y.op.kl with
  | .act,.act=>false
  | .al,.act=>false
  | .act,.rd=>false
  | .rd,.act=>rechecked items i j
  | _,_=>true
theorem disj_not {xs ys:List Nat} (h:disj xs ys=true) {t:Nat} (h1:t∈xs) (h2:t∈ys):False:=by
  unfold disj at h
  rw [List.all_eq_true] at h
  have:=h t h1
  simp at this
  exact this h2
structure RegOk (items:List DO) (ord:Nat→Nat→Prop):Prop where
  pair:∀ i j x y,i<j→items[i]? = some x→items[j]? = some y→x.op.kl≠.chk→y.op.kl≠.chk→ord i j∨apartOk items i j x y=true
  chk:∀ (i:Nat) x,items[i]? = some x→x.op.kl = .chk→x.wr=[]
section
variable (st:Nat→TM×GH) (items:List DO) (D D':Nat→Bool)
def tmS:Nat→Nat→Option TV
  | 0,t=>(st 0).1[t]?
  | i+1,t=>match items[i]? with
    | some x=>if D i=true∧t∈x.wr then (st (i+1)).1[t]? else tmS i t
    | none=>tmS i t
def madeAt (i id:Nat):Option Obj:=if id=(st i).2.next then (st (i+1)).2.get id else none
def hS:Nat→Nat→Option Obj
  | 0,id=>(st 0).2.get id
  | i+1,id=>match items[i]? with
    | some x=>if D i=true∧x.op.kl = .act then (st (i+1)).2.get id else if D i=true∧x.op.kl = .al then (madeAt st i id).or (hS i id) else hS i id
    | none=>hS i id
def exS (j:Nat):Nat→Nat→Option Obj
  | 0,id=>none
  | i+1,id=>match items[i]? with
    | some x=>if j<i∧D i=true∧x.op.kl = .al then (madeAt st i id).or (exS j i id) else exS j i id
    | none=>exS j i id
end
section
variable {st:Nat→TM×GH} {items:List DO} {D D':Nat→Bool} {C:Call} {ord:Nat→Nat→Prop}
structure Run (C:Call) (items:List DO) (st:Nat→TM×GH):Prop where
  step:∀ i x,items[i]? = some x→stepD C x (st i).1 (st i).2=some (st (i+1))
  pres:PresC C
  wf:(st 0).2.wf
theorem Run.wf_at (R:Run C items st):∀ i,i≤items.length→(st i).2.wf
  | 0,_=>R.wf
  | i+1,h=>by
    have hi:items[i]? = some items[i]:=List.getElem?_eq_getElem (by omega)
    exact (stepD_pres R.pres (R.step i _ hi) (R.wf_at i (by omega))).1
theorem Run.mono1 (R:Run C items st) (i:Nat) (h:i<items.length):(st i).2.next≤(st (i+1)).2.next:=by
  have hi:items[i]? = some items[i]:=List.getElem?_eq_getElem h
  exact (stepD_pres R.pres (R.step i _ hi) (R.wf_at i (by omega))).2
theorem Run.mono (R:Run C items st) (i:Nat):∀ k,i≤k→k≤items.length→(st i).2.next≤(st k).2.next
  | 0,h,_=>by
    have:i=0:=by omega
    subst this;exact Nat.le_refl _
  | k+1,h,hk=>by
    by_cases e:i=k+1
    · subst e;exact Nat.le_refl _
    · exact Nat.le_trans (R.mono i k (by omega) (by omega)) (R.mono1 k (by omega))
structure Next (items:List DO) (ord:Nat→Nat→Prop) (D:Nat→Bool) (j:Nat) (y:DO):Prop where
  at_:items[j]? = some y
  nchk:y.op.kl≠.chk
  before:∀ i,ord i j→D i=true
  notyet:D j=false
  closed:∀ i,ord j i→D i=true→False
variable {j:Nat} {y:DO}
theorem Next.early (N:Next items ord D j y) (ok:RegOk items ord) {i:Nat} {x:DO} (h:i<j) (hx:items[i]? = some x) (hc:x.op.kl≠.chk):D i=true∨apartOk items i j x y=true :=
  (ok.pair i j x y h hx N.at_ hc N.nchk).imp (N.before i) id
theorem Next.late (N:Next items ord D j y) (ok:RegOk items ord) {i:Nat} {x:DO} (h:j<i) (hx:items[i]? = some x) (hc:x.op.kl≠.chk) (hD:D i=true):apartOk items j i y x=true :=
  (ok.pair j i y x h N.at_ hx N.nchk hc).resolve_left fun k=>N.closed i k hD
theorem apart_slots {items:List DO} {i j:Nat} {x y:DO} (h:apartOk items i j x y=true):disj x.wr y.rds=true∧disj x.wr y.wr=true∧disj x.rds y.wr=true:=by
  unfold apartOk at h
  simp only [Bool.and_eq_true] at h
  exact ⟨h.1.1.1,h.1.1.2,h.1.2⟩
theorem wr_nchk (ok:RegOk items ord) {i:Nat} {x:DO} (hx:items[i]? = some x) {t:Nat} (ht:t∈x.wr):x.op.kl≠.chk:=fun h=>by
  rw [ok.chk i x hx h] at ht;cases ht
theorem tm_read (R:Run C items st) (ok:RegOk items ord) (N:Next items ord D j y) {t:Nat} (ht:t∈y.rds):tmS st items D items.length t=(st j).1[t]?:=by
  have hj:j<items.length:=(List.getElem?_eq_some_iff.1 N.at_).1
  have A:∀ m,m≤j→tmS st items D m t=(st m).1[t]?:=by
    intro m
    induction m with
    | zero=>intro _;rfl
    | succ m ih =>
      intro hm
      have hx:items[m]? = some items[m]:=List.getElem?_eq_getElem (by omega)
      simp only [tmS,hx]
      split
      · rfl
      · rename_i hn
        rw [ih (by omega)]
        refine (stepD_wr (R.step m _ hx) fun hw=>hn ⟨?_,hw⟩).symm
        rcases N.early ok (by omega) hx (wr_nchk ok hx hw) with k | k
        · exact k
        · exact (disj_not (apart_slots k).1 hw ht).elim
  have B:∀ m,j≤m→m≤items.length→tmS st items D m t=(st j).1[t]?:=by
    intro m
    induction m with
    | zero=>intro h1 _;exact (by
      have:j=0:=by omega
      subst this;rfl)
    | succ m ih =>
      intro h1 h2
      by_cases e:j=m+1
      · subst e;exact A _ (Nat.le_refl _)
      · have hx:items[m]? = some items[m]:=List.getElem?_eq_getElem (by omega)
        simp only [tmS,hx]
        rw [if_neg,ih (by omega) (by omega)]
        rintro ⟨hD,hw⟩
        by_cases e:j=m
        · subst e;rw [N.notyet] at hD;cases hD
        · exact disj_not (apart_slots (N.late ok (by omega) hx (wr_nchk ok hx hw) hD)).2.2 ht hw
  exact B _ (by omega) (Nat.le_refl _)
structure Done (items:List DO) (D D':Nat→Bool) (j:Nat):Prop where
  self:D' j=true
  other:∀ i x,items[i]? = some x→x.op.kl≠.chk→i≠j→D' i=D i
theorem tm_after (ok:RegOk items ord) (N:Next items ord D j y) (E:Done items D D' j) (t:Nat):tmS st items D' items.length t=if t∈y.wr then (st (j+1)).1[t]? else tmS st items D items.length t:=by
  have hj:j<items.length:=(List.getElem?_eq_some_iff.1 N.at_).1
  have same:∀ m,m<items.length→m≠j→∀ x,items[m]? = some x→(D' m=true∧t∈x.wr↔D m=true∧t∈x.wr):=fun m hm ne x hx=>by
    by_cases hw:t∈x.wr
    · rw [E.other m x hx (wr_nchk ok hx hw) ne]
    · simp [hw]
  have A:∀ m,m≤j→tmS st items D' m t=tmS st items D m t:=by
    intro m
    induction m with
    | zero=>intro _;rfl
    | succ m ih =>
      intro hm
      have hx:items[m]? = some items[m]:=List.getElem?_eq_getElem (by omega)
      simp only [tmS,hx,same m (by omega) (by omega) _ hx,ih (by omega)]
  have B:∀ m,j<m→m≤items.length→tmS st items D' m t=if t∈y.wr then (st (j+1)).1[t]? else tmS st items D m t:=by
    intro m
    induction m with
    | zero=>intro h;omega
    | succ m ih =>
      intro h1 h2
      by_cases e:m=j
      · subst e
        simp only [tmS,N.at_,E.self,N.notyet,true_and,Bool.false_eq_true,false_and,if_false]
        split
        · rfl
        · exact A _ (Nat.le_refl _)
      · have hx:items[m]? = some items[m]:=List.getElem?_eq_getElem (by omega)
        simp only [tmS,hx,same m (by omega) e _ hx]
        by_cases hD:D m=true∧t∈items[m].wr
        · rw [if_pos hD,if_pos hD,if_neg]
          intro hy
          exact disj_not (apart_slots (N.late ok (by omega) hx (wr_nchk ok hx hD.2) hD.1)).2.1 hy hD.2
        · rw [if_neg hD,if_neg hD,ih (by omega) (by omega)]
  exact B _ hj (Nat.le_refl _)
theorem tm_all (R:Run C items st) (ok:RegOk items ord) (h:∀ i x,items[i]? = some x→x.op.kl≠.chk→D i=true) (t:Nat):tmS st items D items.length t=(st items.length).1[t]?:=by
  have A:∀ m,m≤items.length→tmS st items D m t=(st m).1[t]?:=by
    intro m
    induction m with
    | zero=>intro _;rfl
    | succ m ih =>
      intro hm
      have hx:items[m]? = some items[m]:=List.getElem?_eq_getElem (by omega)
      simp only [tmS,hx]
      split
      · rfl
      · rename_i hn
        rw [ih (by omega)]
        exact (stepD_wr (R.step m _ hx) fun hw=>hn ⟨h m _ hx (wr_nchk ok hx hw),hw⟩).symm
  exact A _ (Nat.le_refl _)
theorem tm_none (h:∀ i x,items[i]? = some x→x.op.kl≠.chk→D i=false) (ok:RegOk items ord) (t:Nat):∀ m,tmS st items D m t=(st 0).1[t]?
  | 0=>rfl
  | m+1=>by
    simp only [tmS]
    split
    · rename_i x hx
      rw [if_neg,tm_none h ok t m]
      rintro ⟨hD,hw⟩
      rw [h m x hx (wr_nchk ok hx hw)] at hD;cases hD
    · exact tm_none h ok t m
end
end Go.Proofs.D
/- The heap when some of a region's operations have been done. -/
set_option linter.unusedVariables false
namespace Go.Proofs.D
open Go
section
variable {st:Nat→TM×GH} {items:List DO} {D D':Nat→Bool} {C:Call} {ord:Nat→Nat→Prop} {j:Nat} {y:DO}
theorem apart_act {items:List DO} {i j:Nat} {x y:DO} (h:apartOk items i j x y=true) :
    (x.op.kl = .act→y.op.kl≠.act∧y.op.kl≠.rd)∧(x.op.kl = .al→y.op.kl≠.act)∧(x.op.kl = .rd→y.op.kl = .act→rechecked items i j=true):=by
  unfold apartOk at h
  simp only [Bool.and_eq_true] at h
  have h:=h.2
  refine ⟨fun e=>⟨fun e'=>?_,fun e'=>?_⟩,fun e e'=>?_,fun e e'=>?_⟩ <;> rw [e,e'] at h
  · cases h
  · cases h
  · cases h
  · exact h
theorem made_none (R:Run C items st) {i id:Nat} (hi:i<items.length) (h:(st (i+1)).2.next≤id):madeAt st i id=none:=by
  unfold madeAt
  split
  · exact (R.wf_at (i+1) (by omega)).1 id h
  · rfl
theorem made_low {i id:Nat} (h:id<(st i).2.next):madeAt st i id=none:=by
  unfold madeAt;rw [if_neg (by omega)]
theorem hS_low (R:Run C items st) {m:Nat} (hm:m≤items.length) (h:∀ i x,i<m→items[i]? = some x→(x.op.kl = .al∨x.op.kl = .act)→D i=true) (id:Nat):hS st items D m id=(st m).2.get id:=by
  induction m with
  | zero=>rfl
  | succ m ih =>
    have hx:items[m]? = some items[m]:=List.getElem?_eq_getElem (by omega)
    have ih:=ih (by omega) fun i x hi=>h i x (by omega)
    have hs:=R.step m _ hx
    simp only [hS,hx]
    by_cases h1:items[m].op.kl = .act
    · rw [if_pos ⟨h m _ (by omega) hx (.inr h1),h1⟩]
    · rw [if_neg (fun k=>h1 k.2)]
      by_cases h2:items[m].op.kl = .al
      · rw [if_pos ⟨h m _ (by omega) hx (.inl h2),h2⟩,ih]
        unfold madeAt
        rcases stepD_al h2 hs with e | ⟨ob,e⟩
        · rw [e];split
          · rw [Option.or_self]
          · rfl
        · rw [e,GH.get_alloc]
          split
          · rfl
          · rfl
      · rw [if_neg (fun k=>h2 k.2),ih,stepD_same h2 h1 hs]
theorem exS_low:∀ m,m≤j+1→∀ id,exS st items D j m id=none
  | 0,_,_=>rfl
  | m+1,h,id=>by
    simp only [exS]
    split
    · rw [if_neg (fun k=>by omega)];exact exS_low m (by omega) id
    · exact exS_low m (by omega) id
theorem exS_high (R:Run C items st) {id:Nat}:∀ m,m≤items.length→exS st items D j m id≠none→(st (j+1)).2.next≤id
  | 0,_,h=>absurd rfl h
  | m+1,hm,h=>by
    have hx:items[m]? = some items[m]:=List.getElem?_eq_getElem (by omega)
    simp only [exS,hx] at h
    split at h
    · rename_i k
      by_cases e:id=(st m).2.next
      · have:=R.mono (j+1) m (by omega) (by omega);omega
      · have:madeAt st m id=none:=by unfold madeAt;rw [if_neg e]
        rw [this] at h
        exact exS_high R m (by omega) h
    · exact exS_high R m (by omega) h
theorem hS_act (R:Run C items st) (ok:RegOk items ord) (N:Next items ord D j y) (hy:y.op.kl = .act) (E:Done items D D' j) (id:Nat) :
    hS st items D items.length id=(exS st items D j items.length id).or ((st j).2.get id)∧hS st items D' items.length id=(exS st items D j items.length id).or ((st (j+1)).2.get id):=by
  have hj:j<items.length:=(List.getElem?_eq_some_iff.1 N.at_).1
  have low:=hS_low (D:=D) R (Nat.le_of_lt hj) (fun i x hi hx hk=>by
    rcases N.early ok hi hx (by rcases hk with e | e <;> rw [e] <;> simp) with k | k
    · exact k
    · rcases hk with e | e
      · exact absurd hy ((apart_act k).2.1 e)
      · exact absurd hy ((apart_act k).1 e).1) id
  have noact:∀ i x,j<i→items[i]? = some x→x.op.kl = .act→D i=false:=fun i x hi hx hk=>by
    cases hD:D i with
    | false=>rfl
    | true=>exact absurd hk ((apart_act (N.late ok hi hx (by rw [hk];simp) hD)).1 hy).1
  have B:∀ m,j<m→m≤items.length→hS st items D m id=(exS st items D j m id).or ((st j).2.get id)∧hS st items D' m id=(exS st items D j m id).or ((st (j+1)).2.get id):=by
    intro m
    induction m with
    | zero=>intro h;omega
    | succ m ih =>
      intro h1 h2
      by_cases e:m=j
      · subst e
        rw [exS_low (m+1) (Nat.le_refl _)]
        simp only [hS,N.at_,N.notyet,E.self,hy,Bool.false_eq_true,false_and,if_false,and_self,if_true,Option.none_or]
        exact ⟨low,trivial⟩
      · have hx:items[m]? = some items[m]:=List.getElem?_eq_getElem (by omega)
        obtain ⟨i1,i2⟩:=ih (by omega) (by omega)
        simp only [hS,exS,hx]
        by_cases h3:items[m].op.kl = .act
        · have hn:=noact m _ (by omega) hx h3
          have hn':D' m=false:=by rw [E.other m _ hx (by rw [h3];simp) e];exact hn
          simp only [hn,hn',Bool.false_eq_true,false_and,and_false,if_false]
          exact ⟨i1,i2⟩
        · simp only [h3,and_false,if_false]
          by_cases h4:items[m].op.kl = .al
          · have hd:D' m=D m:=E.other m _ hx (by rw [h4];simp) e
            simp only [h4,hd,and_true]
            by_cases h5:D m=true
            · rw [if_pos h5,if_pos h5,if_pos ⟨by omega,h5⟩,i1,i2,Option.or_assoc,Option.or_assoc]
              exact ⟨rfl,rfl⟩
            · rw [if_neg h5,if_neg h5,if_neg (fun k=>h5 k.2)];exact ⟨i1,i2⟩
          · simp only [h4,and_false,if_false];exact ⟨i1,i2⟩
  exact B _ hj (Nat.le_refl _)
theorem hS_al (R:Run C items st) (ok:RegOk items ord) (N:Next items ord D j y) (hy:y.op.kl = .al) (E:Done items D D' j) (id:Nat) :
    hS st items D' items.length id=(madeAt st j id).or (hS st items D items.length id):=by
  have hj:j<items.length:=(List.getElem?_eq_some_iff.1 N.at_).1
  have noact:∀ i x,j<i→items[i]? = some x→x.op.kl = .act→D i=false:=fun i x hi hx hk=>by
    cases hD:D i with
    | false=>rfl
    | true=>exact absurd hk ((apart_act (N.late ok hi hx (by rw [hk];simp) hD)).2.1 hy)
  have nchk:∀ i x,items[i]? = some x→x.op.kl = .al∨x.op.kl = .act→i≠j→D' i=D i:=fun i x hx hk ne=>E.other i x hx (by rcases hk with e | e <;> rw [e] <;> simp) ne
  have A:∀ m,m≤j→hS st items D' m id=hS st items D m id:=by
    intro m
    induction m with
    | zero=>intro _;rfl
    | succ m ih =>
      intro hm
      have hx:items[m]? = some items[m]:=List.getElem?_eq_getElem (by omega)
      simp only [hS,hx,ih (by omega)]
      by_cases h1:items[m].op.kl = .act
      · simp only [h1,nchk m _ hx (.inr h1) (by omega)]
      · by_cases h2:items[m].op.kl = .al
        · simp only [h2,nchk m _ hx (.inl h2) (by omega)]
        · simp only [h1,h2,and_false,if_false]
  have B:∀ m,j<m→m≤items.length→hS st items D' m id=(madeAt st j id).or (hS st items D m id):=by
    intro m
    induction m with
    | zero=>intro h;omega
    | succ m ih =>
      intro h1 h2
      by_cases e:m=j
      · subst e
        simp only [hS,N.at_,N.notyet,E.self,hy,Bool.false_eq_true,false_and,if_false,and_self,if_true,reduceCtorEq,and_false]
        rw [A _ (Nat.le_refl _)]
      · have hx:items[m]? = some items[m]:=List.getElem?_eq_getElem (by omega)
        have ih:=ih (by omega) (by omega)
        simp only [hS,hx]
        by_cases h3:items[m].op.kl = .act
        · have hn:=noact m _ (by omega) hx h3
          rw [nchk m _ hx (.inr h3) e]
          simp only [hn,Bool.false_eq_true,false_and,if_false]
          exact ih
        · simp only [h3,and_false,if_false]
          by_cases h4:items[m].op.kl = .al
          · rw [nchk m _ hx (.inl h4) e]
            simp only [h4,and_true]
            by_cases h5:D m=true
            · rw [if_pos h5,if_pos h5,ih,← Option.or_assoc,← Option.or_assoc]
              congr 1
              by_cases e1:id<(st (j+1)).2.next
              · have:=R.mono (j+1) m (by omega) (by omega)
                rw [made_low (i:=m) (by omega)];simp
              · rw [made_none R hj (by omega)];simp
            · rw [if_neg h5,if_neg h5];exact ih
          · simp only [h4,and_false,if_false];exact ih
  exact B _ hj (Nat.le_refl _)
theorem hS_other (N:Next items ord D j y) (h1:y.op.kl≠.al) (h2:y.op.kl≠.act) (E:Done items D D' j) (id:Nat):∀ m,m≤items.length→hS st items D' m id=hS st items D m id
  | 0,_=>rfl
  | m+1,hm=>by
    have hx:items[m]? = some items[m]:=List.getElem?_eq_getElem (by omega)
    simp only [hS,hx,hS_other N h1 h2 E id m (by omega)]
    by_cases e:m=j
    · subst e
      have:=N.at_;rw [hx] at this;cases this
      simp only [h1,h2,and_false,if_false]
    · by_cases h3:items[m].op.kl = .act
      · simp only [h3,E.other m _ hx (by rw [h3];simp) e]
      · by_cases h4:items[m].op.kl = .al
        · simp only [h4,E.other m _ hx (by rw [h4];simp) e]
        · simp only [h3,h4,and_false,if_false]
def Dom (st:Nat→TM×GH) (items:List DO) (D:Nat→Bool) (φ0 φ:Phi):Prop :=
  ∀ id,φ id≠none→φ0 id≠none∨∃ i,i<items.length∧D i=true∧(st i).2.next≤id∧id<(st (i+1)).2.next
theorem at_one (R:Run C items st) {i k id:Nat} (hi:i<items.length) (hk:k<items.length) (h1:(st i).2.next≤id) (h2:id<(st (i+1)).2.next) (h3:(st k).2.next≤id) (h4:id<(st (k+1)).2.next):i=k:=by
  rcases Nat.lt_trichotomy i k with h | h | h
  · have:=R.mono (i+1) k (by omega) (by omega);omega
  · exact h
  · have:=R.mono (k+1) i (by omega) (by omega);omega
theorem look_at (R:Run C items st) {m:Nat} (hm:m≤items.length) (h1:∀ i x,i<m→items[i]? = some x→x.op.kl = .act→D i=true) (h2:∀ i x,m≤i→items[i]? = some x→x.op.kl = .act→D i=false)
    {φ0 φ:Phi} (dom:Dom st items D φ0 φ) (fresh:∀ id,(st 0).2.next≤id→id<(st items.length).2.next→φ0 id=none) {id:Nat} {o:Obj} (ho:(st m).2.get id=some o) (hφ:φ id≠none) :
    hS st items D items.length id=some o:=by
  have A:∀ k,k≤items.length→(∀ i x,i<k→items[i]? = some x→x.op.kl = .act→D i=true)→∀ o,(st k).2.get id=some o→hS st items D k id=some o:=by
    intro k
    induction k with
    | zero=>intro _ _ o h;exact h
    | succ k ih =>
      intro hk h1 o h
      have hx:items[k]? = some items[k]:=List.getElem?_eq_getElem (by omega)
      have ih:=ih (by omega) fun i x hi=>h1 i x (by omega)
      have hs:=R.step k _ hx
      simp only [hS,hx]
      by_cases a1:items[k].op.kl = .act
      · rw [if_pos ⟨h1 k _ (by omega) hx a1,a1⟩];exact h
      · rw [if_neg (fun k=>a1 k.2)]
        by_cases a2:items[k].op.kl = .al
        · by_cases e:id=(st k).2.next
          · have hn:id<(st (k+1)).2.next:=by
              cases Nat.lt_or_ge id (st (k+1)).2.next with
              | inl h=>exact h
              | inr h'=>rw [(R.wf_at (k+1) hk).1 id h'] at h;cases h
            have hD:D k=true:=by
              rcases dom id hφ with d | ⟨i,hi,hD,d1,d2⟩
              · have m1:=R.mono 0 k (by omega) (by omega)
                have m2:=R.mono (k+1) items.length (by omega) (Nat.le_refl _)
                exact absurd (fresh id (by omega) (by omega)) d
              · rw [at_one R (by omega) hi (by omega) hn d1 d2];exact hD
            rw [if_pos ⟨hD,a2⟩]
            unfold madeAt
            rw [if_pos e,h];rfl
          · have hk':(st k).2.get id=some o:=by
              rcases stepD_al a2 hs with e' | ⟨ob,e'⟩
              · rw [e'] at h;exact h
              · rw [e',GH.get_alloc,if_neg e] at h;exact h
            split
            · unfold madeAt;rw [if_neg e,ih o hk'];rfl
            · exact ih o hk'
        · rw [if_neg (fun k=>a2 k.2)]
          rw [stepD_same a2 a1 hs] at h
          exact ih o h
  have B:∀ k,m≤k→k≤items.length→hS st items D k id=some o:=by
    intro k
    induction k with
    | zero=>intro h _;exact (by
      have:m=0:=by omega
      subst this;exact ho)
    | succ k ih =>
      intro a1 a2
      by_cases e:m=k+1
      · subst e;exact A _ hm h1 o ho
      · have hx:items[k]? = some items[k]:=List.getElem?_eq_getElem (by omega)
        have ih:=ih (by omega) (by omega)
        simp only [hS,hx]
        by_cases b1:items[k].op.kl = .act
        · have:=h2 k _ (by omega) hx b1
          simp only [this,Bool.false_eq_true,false_and,if_false];exact ih
        · rw [if_neg (fun k=>b1 k.2)]
          split
          · have hlt:id<(st m).2.next:=by
              cases Nat.lt_or_ge id (st m).2.next with
              | inl h=>exact h
              | inr h'=>rw [(R.wf_at m hm).1 id h'] at ho;cases ho
            have:=R.mono m k (by omega) (by omega)
            rw [made_low (by omega),ih];rfl
          · exact ih
  exact B _ hm (Nat.le_refl _)
end
end Go.Proofs.D
/- All operations,by kind. -/
set_option linter.unusedVariables false
namespace Go.Proofs.D
open Go
section
variable {P:Program} {nr base:Nat} {φ:Phi} {β:Nat→Nat} {a:Act} {w:World} {tm:TM} {C:Call} {G G':GH} {o:Oper} {op:DOp} {u:TV}
theorem sound_pure (hkl:op.kl = .pure) (hk:okOp P nr o op=true) (h:opD C tm G op=some (u,G')) (hr:∀ n∈op.rd,Rd φ β a tm n):PureOk P φ β a w o G G' u:=by
  cases op <;> first | (simp [DOp.kl] at hkl;done) | skip
  case move=>exact sound_move hk h hr
  case nilck=>exact sound_nilck hk h hr
  case pick=>exact sound_pick hk h hr
  case build=>exact sound_build hk h hr
  case iaddr=>exact sound_iaddr hk h hr
  case bin=>exact sound_bin hk h hr
  case cmp=>exact sound_cmp hk h hr
  case beq=>exact sound_beq hk h hr
  case aeq=>exact sound_aeq hk h hr
  case pnil=>exact sound_pnil hk h hr
  case snil=>exact sound_snil hk h hr
  case not=>exact sound_not hk h hr
  case conv=>exact sound_conv hk h hr
  case slice=>exact sound_slice hk h hr
  case len=>exact sound_len hk h hr
  case ext=>exact sound_ext hk h hr
  case fld=>exact sound_fld hk h hr
  case mx=>exact sound_mx hk h hr
  case mn=>exact sound_mn hk h hr
theorem sound_rd (hkl:op.kl = .rd) (hk:okOp P nr o op=true) (h:opD C tm G op=some (u,G')) (H:Look base φ G w) (hr:∀ n∈op.rd,Rd φ β a tm n):PureOk P φ β a w o G G' u:=by
  cases op <;> first | (simp [DOp.kl] at hkl;done) | skip
  case ldG=>exact sound_ldG hk h H hr
  case lkup=>exact sound_lkup hk h H hr
  case mlen=>simp [okOp] at hk
theorem sound_al (hkl:op.kl = .al) (hk:okOp P nr o op=true) (h:opD C tm G op=some (u,G')) (hr:∀ n∈op.rd,Rd φ β a tm n):AllocOk P φ β a w o G G' u:=by
  cases op <;> first | (simp [DOp.kl] at hkl;done) | skip
  case newz=>exact sound_newz hk h
  case newv=>exact sound_newv hk h (by simpa [DOp.rd] using hr)
  case bslice=>exact sound_bslice hk h hr
  case mkslice=>exact sound_mkslice hk h (by simpa [DOp.rd] using hr)
  case mkmap=>exact sound_mkmap hk h
theorem sound_act (hC:SoundC P base C) (hkl:op.kl = .act) (hk:okOp P nr o op=true) (h:opD C tm G op=some (u,G')) (H:HRel base φ G.get w) (hw:G.wf) (hb:base≤w.heap.size)
    (hf:∀ id,G.next≤id→id<G'.next→φ id=none) (hr:∀ n∈op.rd,Rd φ β a tm n):ActOk P base φ β a w o G G' u:=by
  cases op <;> first | (simp [DOp.kl] at hkl;done) | skip
  case stG=>exact sound_stG hk h H hw (by simpa [DOp.rd] using hr)
  case app=>exact sound_app hk h H hw hb hf hr
  case copy=>exact sound_copy hk h H hw hr
  case clear=>exact sound_clear hk h H hw hr
  case mupd=>exact sound_mupd hk h H hw hr
  case del=>exact sound_del hk h H hw hr
  case call=>exact sound_call hC hk h H hw hb hf hr
  case callT=>exact sound_callT hC hk h H hw hb hf hr
  case sbytes=>exact sound_sbytes hk h H hw hb hf hr
def noref {R:Type} (K:TV→GH→Option R):TV→GH→Option R:=fun v G=>match v with
  | .ref _ _=>none
  | v=>K v G
theorem go_noref {R:Type} (K:TV→GH→Option R) (g:Int→Int→Int):∀ (xs:List Src) (a:Int),opK.go tm G K xs a g=opK.go tm G (noref K) xs a g
  | [],_=>rfl
  | x::xs,a=>by simp only [opK.go,go_noref K g xs]
theorem opK_noref {R:Type} (K:TV→GH→Option R) (op:DOp):opK C tm G K op=opK C tm G (noref K) op:=by
  cases op <;> first | rfl | skip
  case mx x xs=>simp only [opK,go_noref K mx2]
  case mn x xs=>simp only [opK,go_noref K mn2]
theorem opD_noref (h:opD C tm G op=some (u,G')):∀ b off,u≠.ref b off:=by
  intro b off e
  subst e
  have e:=opK_noref (C:=C) (tm:=tm) (G:=G) (fun v G=>some (v,G)) op
  rw [opK_eq C tm G (noref _)] at e
  have h':opK C tm G (fun v G=>some (v,G)) op=some (.ref b off,G'):=h
  rw [h',h] at e
  simp [noref] at e
end
end Go.Proofs.D
/- A reader that is looked at again. -/
set_option linter.unusedVariables false
namespace Go.Proofs.D
open Go
section
variable {C:Call} {tm tm':TM} {G G':GH} {items:List DO} {st:Nat→TM×GH} {ord:Nat→Nat→Prop}
def Again2 (c op:DOp) (d:Nat):Prop :=
  (∃ a s,op = .ldG a s∧c = .reG d a s)∨(∃ ks m k z s b,op = .lkup ks m k z s b∧c = .reK d ks m k z s b)
theorem go_spec {op:DOp} {gd:Option (Nat×Bool)} {d:Nat}:∀ cs:List DO,rechecked.go cs op gd d=true→∃ (k:Nat) (c:DO),cs[k]? = some c∧(∀ (i:Nat) (x:DO),i<k→cs[i]? = some x→x.op.kl = .chk)∧c.op.kl = .chk∧c.grd=gd∧c.dst=none∧Again2 c.op op d
  | [],h=>by simp [rechecked.go] at h
  | c::cs,h=>by
    have more:c.op.kl = .chk→rechecked.go cs op gd d=true→∃ (k:Nat) (e:DO),(c::cs)[k]? = some e∧(∀ (i:Nat) (x:DO),i<k→(c::cs)[i]? = some x→x.op.kl = .chk)∧e.op.kl = .chk∧e.grd=gd∧e.dst=none∧Again2 e.op op d:=fun h1 h2=>by
      obtain ⟨k,e,k1,k2,k3⟩:=go_spec cs h2
      refine ⟨k+1,e,by simpa using k1,fun i x hi hx=>?_,k3⟩
      cases i with
      | zero=>simp at hx;subst hx;exact h1
      | succ i=>exact k2 i x (by omega) (by simpa using hx)
    simp only [rechecked.go] at h
    split at h
    · rename_i d' a' s' a s hc
      simp only [Bool.or_eq_true,Bool.and_eq_true,Nat.beq_eq,decide_eq_true_eq,Option.isNone_iff_eq_none] at h
      rcases h with ⟨⟨⟨⟨rfl,rfl⟩,rfl⟩,h4⟩,h5⟩ | ⟨h1,h2⟩
      · exact ⟨0,c,rfl,fun i x hi=>by omega,by rw [hc];rfl,h4,h5,.inl ⟨_,_,rfl,hc⟩⟩
      · exact more h1 h2
    · rename_i d' ks' m' k' z' s' b' ks m k z s b hc
      simp only [Bool.or_eq_true,Bool.and_eq_true,Nat.beq_eq,decide_eq_true_eq,Option.isNone_iff_eq_none,beq_iff_eq] at h
      rcases h with ⟨⟨⟨⟨⟨⟨⟨⟨rfl,rfl⟩,rfl⟩,rfl⟩,rfl⟩,rfl⟩,rfl⟩,h4⟩,h5⟩ | ⟨h1,h2⟩
      · exact ⟨0,c,rfl,fun i x hi=>by omega,by rw [hc];rfl,h4,h5,.inr ⟨_,_,_,_,_,_,rfl,hc⟩⟩
      · exact more h1 h2
    · simp only [Bool.and_eq_true,decide_eq_true_eq] at h
      exact more h.1 h.2
theorem src_get {x:Src} (h:∀ t∈x.rd,tm'[t]? = tm[t]?):x.get tm' = x.get tm:=by
  cases x with
  | k v=>rfl
  | t n=>simp only [Src.get,h n (by simp [Src.rd])]
theorem src_cell_eq {x:Src} (h:∀ t∈x.rd,tm'[t]? = tm[t]?):x.cell tm' = x.cell tm:=by unfold Src.cell;rw [src_get h]
theorem again_spec {c op:DOp} {d:Nat} {u:TV} (hm:Again2 c op d) (h:opD C tm G c=some (u,G')) :
    ∃ x,tm[d]? = some x∧(∀ tm',(∀ t∈op.rd,tm'[t]? = tm[t]?)→opD C tm' G op=some (x,G)):=by
  rcases hm with ⟨a,s,rfl,rfl⟩ | ⟨ks,m,key,z,s,b,rfl,rfl⟩
  · simp only [opD,opK] at h
    split at h
    · rename_i id off v h1 h2
      refine ⟨_,h2,fun tm' hr=>?_⟩
      have ha:tm'[a]? = some (.pt id off):=by rw [hr a (by simp [DOp.rd]),h1]
      simp only [opD,opK,ha]
      cases s with
      | c s =>
        simp only at h ⊢
        have e:∀ K:Cell→Option (TV×GH),shK s (G.ld id off) K=(shK s (G.ld id off) some).bind K:=fun K=>by rw [shK_bind];rfl
        rw [e] at h ⊢
        obtain ⟨c,hc,h⟩:=Option.bind_eq_some_iff.1 h
        obtain ⟨hv,_⟩:=guardK_some h
        simp at hv;subst hv
        rw [hc];rfl
      | agg ss =>
        simp only at h ⊢
        have e:∀ K:List Cell→Option (TV×GH),shsK (fun i=>G.ld id (off+i)) K ss 0=(shsK (fun i=>G.ld id (off+i)) some ss 0).bind K:=fun K=>by rw [shsK_bind];rfl
        rw [e] at h ⊢
        obtain ⟨c,hc,h⟩:=Option.bind_eq_some_iff.1 h
        obtain ⟨hv,_⟩:=guardK_some h
        simp at hv;subst hv
        rw [hc];rfl
    · cases h
  · simp only [opD,opK] at h
    obtain ⟨mi,hmi,h1⟩:=Option.bind_eq_some_iff.1 h
    obtain ⟨kv,hkv,h2⟩:=Option.bind_eq_some_iff.1 h1
    obtain ⟨hko,h3⟩:=chk_some h2
    obtain ⟨es,hes,h4⟩:=Option.bind_eq_some_iff.1 h3
    clear h h1 h2 h3
    have h:=h4
    clear h4
    have e:∀ K:V1→Option (TV×GH),vsK s (some ((mapGet es kv).getD z)) K=(vsK s (some ((mapGet es kv).getD z)) some).bind K:=fun K=>by rw [vsK_bind];rfl
    have fin:∀ tm',(∀ t∈(DOp.lkup ks m key z s b).rd,tm'[t]? = tm[t]?)→opD C tm' G (.lkup ks m key z s b)=(match (generalizing:=false) b with
      | true=>vsK s (some ((mapGet es kv).getD z)) fun v=>some (.tup [v,.c (.bool (mapGet es kv).isSome)],G)
      | false=>vsK s (some ((mapGet es kv).getD z)) fun v=>some (.v v,G)):=fun tm' hr=>by
      simp only [opD,opK]
      rw [src_cell_eq (fun t ht=>hr t (mem_l ht)),src_get (fun t ht=>hr t (mem_r ht)),hmi,Option.bind_some,hkv,Option.bind_some,hko]
      cases b <;> simp only [chk,hes,Option.bind_some]
    split at h
    · rename_i w b' hd
      refine ⟨_,hd,fun tm' hr=>?_⟩
      rw [fin tm' hr]
      simp only
      rw [e] at h ⊢
      obtain ⟨c,hc,h⟩:=Option.bind_eq_some_iff.1 h
      obtain ⟨hv,_⟩:=guardK_some h
      simp at hv;obtain ⟨rfl,rfl⟩:=hv
      rw [hc];rfl
    · rename_i w hd
      refine ⟨_,hd,fun tm' hr=>?_⟩
      rw [fin tm' hr]
      simp only
      rw [e] at h ⊢
      obtain ⟨c,hc,h⟩:=Option.bind_eq_some_iff.1 h
      obtain ⟨hv,_⟩:=guardK_some h
      simp at hv;subst hv
      rw [hc];rfl
    · cases h
theorem chk_isL {op:DOp} (h:op.kl = .chk):op.isL=false:=by cases op <;> simp [DOp.isL,DOp.kl] at h ⊢
theorem rd_isL {op:DOp} (h:op.kl = .rd):op.isL=false:=by cases op <;> simp [DOp.isL,DOp.kl] at h ⊢
theorem reread {i j:Nat} {x:DO} (R:Run C items st) (ok:RegOk items ord) (hx:items[i]? = some x) (hij:i<j) (hrd:x.op.kl = .rd) (hj:j<items.length) (hre:rechecked items i j=true) (hran:∀ g want,x.grd=some (g,want)→(st i).1[g]? = some (.v (.c (.bool want)))) :
    ∃ u,opD C (st i).1 (st (j+1)).2 x.op=some (u,(st (j+1)).2)∧opD C (st i).1 (st i).2 x.op=some (u,(st i).2):=by
  unfold rechecked at hre
  rw [hx] at hre
  simp only at hre
  split at hre
  · rename_i d hd
    simp only [Bool.and_eq_true,Bool.not_eq_true',List.contains_eq_mem,decide_eq_false_iff_not] at hre
    obtain ⟨⟨hnd,hgo⟩,hall⟩:=hre
    obtain ⟨k,c,hc,hbet,hck,hcg,hcd,hm⟩:=go_spec _ hgo
    rw [List.getElem?_drop] at hc
    have hkl:=(List.getElem?_eq_some_iff.1 hc).1
    have hall':∀ n o,i<n→items[n]? = some o→∀ t,t∈d::x.rds→t ∉ o.wr:=fun n o hn ho t ht hw=>by
      rw [List.all_eq_true] at hall
      have:=hall o (by rw [List.mem_iff_getElem?];exact ⟨n-(i+1),by rw [List.getElem?_drop];rw [show i+1+(n-(i+1))=n by omega];exact ho⟩)
      simp only [Bool.or_eq_true,decide_eq_true_eq] at this
      rcases this with e | e
      · rw [ok.chk n o ho e] at hw;cases hw
      · exact disj_not e hw ht
    have stay:∀ t,t∈d::x.rds→∀ n,i<n→n≤items.length→(st n).1[t]? = (st (i+1)).1[t]?:=by
      intro t ht n
      induction n with
      | zero=>intro h;omega
      | succ n ih =>
        intro h1 h2
        by_cases e:n=i
        · subst e;rfl
        · have ho:items[n]? = some items[n]:=List.getElem?_eq_getElem (by omega)
          rw [stepD_wr (R.step n _ ho) (hall' n _ (by omega) ho t ht)]
          exact ih (by omega) (by omega)
    have heap:∀ n,n≤k→(st (j+1+n)).2=(st (j+1)).2:=by
      intro n
      induction n with
      | zero=>intro _;rfl
      | succ n ih =>
        intro h
        have ho:items[j+1+n]? = some items[j+1+n]:=List.getElem?_eq_getElem (by omega)
        have hk:=hbet n items[j+1+n] (by omega) (by rw [List.getElem?_drop];exact ho)
        rw [show j+1+(n+1)=j+1+n+1 by omega,stepD_same (by rw [hk];simp) (by rw [hk];simp) (R.step _ _ ho)]
        exact ih (by omega)
    have hs:=R.step _ _ hc
    have gstay:∀ g want,x.grd=some (g,want)→(st (j+1+k)).1[g]? = some (.v (.c (.bool want))):=fun g want hg=>by
      have hin:g∈x.rds:=by unfold DO.rds;rw [hg];simp
      rw [stay g (List.mem_cons_of_mem _ hin) (j+1+k) (by omega) (by omega)]
      rcases stepD_cases (R.step i x hx) with ⟨h1,_,_,_⟩ | ⟨_,hs0⟩
      · have:=hran g want hg
        rcases h1 g want hg with h2 | h2
        · rw [this] at h2;cases h2
        · rw [this] at h2;cases want <;> simp at h2
      · unfold goD at hs0
        rw [rd_isL hrd] at hs0
        obtain ⟨⟨v,G3⟩,hv,hs0⟩:=Option.map_eq_some_iff.1 hs0
        have e1:(st (i+1)).1=put (st i).1 x.dst v:=(Prod.mk.inj hs0).1.symm
        rw [e1,put_get (by rw [hd];simp;exact fun e=>hnd (e ▸ hin))]
        exact hran g want hg
    rcases stepD_cases hs with ⟨h1,h2,_⟩ | ⟨_,hs⟩
    · exfalso
      cases hg:x.grd with
      | none=>rw [hg] at hcg;exact h2 hcg
      | some p =>
        obtain ⟨g,want⟩:=p
        rw [hg] at hcg
        have:=gstay g want hg
        rcases h1 g want hcg with h3 | h3
        · rw [this] at h3;cases h3
        · rw [this] at h3;cases want <;> simp at h3
    · unfold goD at hs
      rw [chk_isL hck] at hs
      obtain ⟨⟨u',G2⟩,hu,_⟩:=Option.map_eq_some_iff.1 hs
      obtain ⟨u,hud,hop⟩:=again_spec hm hu
      rw [heap k (Nat.le_refl _)] at hop
      rcases stepD_cases (R.step i x hx) with ⟨h1,h2,_,_⟩ | ⟨_,hs0⟩
      · exfalso
        cases hg:x.grd with
        | none=>exact h2 hg
        | some p =>
          obtain ⟨g,want⟩:=p
          have:=hran g want hg
          rcases h1 g want hg with h3 | h3
          · rw [this] at h3;cases h3
          · rw [this] at h3;cases want <;> simp at h3
      · unfold goD at hs0
        rw [rd_isL hrd] at hs0
        obtain ⟨⟨v,G3⟩,hv,hs0⟩:=Option.map_eq_some_iff.1 hs0
        have hG:=opD_same (by rw [hrd];simp) (by rw [hrd];simp) hv
        have e1:(st (i+1)).1=put (st i).1 x.dst v:=(Prod.mk.inj hs0).1.symm
        have hue:u=v:=by
          rw [stay d (by simp) (j+1+k) (by omega) (by omega),e1] at hud
          exact put_list hd hud
        subst hue
        subst hG
        have hin:∀ t,t∈x.op.rd→t∈x.rds:=fun t ht=>by unfold DO.rds;exact List.mem_append.2 (.inr ht)
        refine ⟨u,hop _ fun t ht=>?_,hv⟩
        rw [stay t (List.mem_cons_of_mem _ (hin t ht)) (j+1+k) (by omega) (by omega),e1,put_get (by rw [hd];simp;exact fun e=>hnd (e ▸ hin t ht))]
  · cases hre
end
end Go.Proofs.D
/- One operation of a region,in any order that the program allows. -/
set_option linter.unusedVariables false
namespace Go.Proofs.D
open Go
section
variable {B:Beg} {P:Program} {C:Call} {φ φ0:Phi} {β:Nat→Nat} {a:Act} {w:World} {mops:Array Oper} {mo:Oper} {tab:List (Nat×List Nat)}
variable {st:Nat→TM×GH} {items:List DO} {D D':Nat→Bool} {ord:Nat→Nat→Prop} {j:Nat} {y:DO}
structure ItemOk (P:Program) (nr:Nat) (mops:Array Oper) (tab:List (Nat×List Nat)) (mo:Oper) (y:DO):Prop where
  op:okOp P nr mo y.op=true
  grd:okGrd mops mo y=true
  dst:okDst nr mo.dst y.dst=true
  refs:okRefs nr tab y=true
  lgrd:y.wr=y.dst.toList∨y.grd=none
theorem cut_at (ok:RegOk items ord) (cl:∀ i k,ord i k→D k=true→D i=true):∀ n,n≤items.length→∃ m,m≤n∧(∀ (i:Nat) (x:DO),i<m→items[i]? = some x→x.op.kl = .act→D i=true) ∧
    (∀ (i:Nat) (x:DO),m≤i→i<n→items[i]? = some x→x.op.kl = .act→D i=false)∧(m=0∨∃ (c:Nat) (x:DO),m=c+1∧items[c]? = some x∧x.op.kl = .act∧D c=true)
  | 0,_=>⟨0,Nat.le_refl _,fun i x h=>by omega,fun i x _ h=>by omega,.inl rfl⟩
  | n+1,hn=>by
    obtain ⟨m,h1,h2,h3,h4⟩:=cut_at ok cl n (by omega)
    have hx:items[n]? = some items[n]:=List.getElem?_eq_getElem (by omega)
    by_cases hk:items[n].op.kl = .act∧D n=true
    · refine ⟨n+1,Nat.le_refl _,fun i x hi hix hxk=>?_,fun i x a b=>by omega,.inr ⟨n,_,rfl,hx,hk⟩⟩
      by_cases e:i=n
      · subst e;exact hk.2
      · rcases ok.pair i n x _ (by omega) hix hx (by rw [hxk];simp) (by rw [hk.1];simp) with k | k
        · exact cl i n k hk.2
        · exact absurd hk.1 ((apart_act k).1 hxk).1
    · refine ⟨m,by omega,h2,fun i x a b hix hxk=>?_,h4⟩
      by_cases e:i=n
      · subst e
        rw [hx] at hix;cases hix
        cases hD:D i with
        | false=>rfl
        | true=>exact absurd ⟨hxk,hD⟩ hk
      · exact h3 i x a (by omega) hix hxk
theorem dom_free (R:Run C items st) (dom:Dom st items D φ0 φ) (fresh:∀ id,(st 0).2.next≤id→id<(st items.length).2.next→φ0 id=none) (hj:j<items.length) (hD:D j=false) {id:Nat}
    (h1:(st j).2.next≤id) (h2:id<(st (j+1)).2.next):φ id=none:=by
  cases hφ:φ id with
  | none=>rfl
  | some L =>
    rcases dom id (by simp [hφ]) with d | ⟨i,hi,d0,d1,d2⟩
    · have m1:=R.mono 0 j (by omega) (by omega)
      have m2:=R.mono (j+1) items.length (by omega) (Nat.le_refl _)
      exact absurd (fresh id (by omega) (by omega)) d
    · have:=at_one R hi hj d1 d2 h1 h2
      subst this;rw [hD] at d0;cases d0
theorem dom_next (R:Run C items st) (dom:Dom st items D φ0 φ) (E:Done items D D' j) (hj:j<items.length) {ψ:Phi} (A:∀ id,ψ id≠none→φ id≠none∨((st j).2.next≤id∧id<(st (j+1)).2.next)):Dom st items D' φ0 ψ:=fun id hid=>by
  rcases A id hid with h | ⟨h1,h2⟩
  · rcases dom id h with h | ⟨i,hi,d0,d1,d2⟩
    · exact .inl h
    · refine .inr ⟨i,hi,?_,d1,d2⟩
      by_cases e:i=j
      · subst e;exact E.self
      · have hx:items[i]? = some items[i]:=List.getElem?_eq_getElem hi
        rw [E.other i _ hx (fun k=>?_) e];exact d0
        have:=stepD_same (by rw [k];simp) (by rw [k];simp) (R.step i _ hx)
        rw [this] at d2;omega
  · exact .inr ⟨j,hj,E.self,h1,h2⟩
theorem dom_same (R:Run C items st) (dom:Dom st items D φ0 φ) (E:Done items D D' j) (hj:j<items.length):Dom st items D' φ0 φ :=
  dom_next R dom E hj fun id h=>.inl h
theorem kl_cases (k:Kl):k = .pure∨k = .rd∨k = .al∨k = .act∨k = .loc∨k = .chk:=by cases k <;> simp
theorem loc_isL {op:DOp} (h:op.kl = .loc):op.isL=true:=by cases op <;> simp [DOp.isL,DOp.kl] at h ⊢
theorem region_step (R:Run C items st) (ok:RegOk items ord) (hC:SoundC P B.base C) (hrefs:B.refs=refsOf tab) (fresh:∀ id,(st 0).2.next≤id→id<(st items.length).2.next→φ0 id=none)
    (N:Next items ord D j y) (cl:∀ i k,ord i k→D k=true→D i=true) (E:Done items D D' j) (I:ItemOk P B.nr mops tab mo y)
    (S:StR B φ β (hS st items D items.length) (tmS st items D items.length) a w) (dom:Dom st items D φ0 φ) :
    StepOk P mops mo a w fun a' w'=>∃ φ' β',StR B φ' β' (hS st items D' items.length) (tmS st items D' items.length) a' w'∧Dom st items D' φ0 φ':=by
  have hj:j<items.length:=(List.getElem?_eq_some_iff.1 N.at_).1
  have hr:∀ n∈y.rds,(st j).1[n]? = tmS st items D items.length n:=fun n hn=>(tm_read R ok N hn).symm
  have htm:∀ t,tmS st items D' items.length t=upd (tmS st items D items.length) y (st (j+1)).1 t:=fun t=>tm_after ok N E t
  have htm:tmS st items D' items.length=upd (tmS st items D items.length) y (st (j+1)).1:=funext htm
  have wfj:=R.wf_at j (by omega)
  have wfj':=R.wf_at (j+1) (by omega)
  have hm:=R.mono1 j hj
  have free:∀ id,(st j).2.next≤id→id<(st (j+1)).2.next→φ id=none:=fun id=>dom_free R dom fresh hj N.notyet
  have other:y.op.kl≠.al→y.op.kl≠.act→hS st items D' items.length=hS st items D items.length:=fun h1 h2=>funext fun id=>hS_other N h1 h2 E id _ (Nat.le_refl _)
  have hrd:∀ n∈y.op.rd,Rd φ β a (st j).1 n:=fun n hn=>S.rd (hr n (rds_op hn))
  rcases stepD_cases (R.step j y N.at_) with ⟨c1,c2,e1,e2⟩ | ⟨c1,hgo⟩
  · -- passed over
    have hh:hS st items D' items.length=hS st items D items.length:=by
      by_cases h2:y.op.kl = .act
      · funext id
        obtain ⟨k1,k2⟩:=hS_act R ok N h2 E id
        rw [k1,k2,e2]
      · by_cases h1:y.op.kl = .al
        · funext id
          rw [hS_al R ok N h1 E id]
          have:madeAt st j id=none:=by
            unfold madeAt
            split
            · rename_i e;rw [e2];exact wfj.1 id (by omega)
            · rfl
          rw [this];rfl
        · exact other h1 h2
    intro Q K hK
    refine step_skip S I.grd I.dst hr I.lgrd ⟨c1,c2⟩ Q K fun a' w' S'=>hK a' w' ⟨φ,β,?_,dom_same R dom E hj⟩
    rw [hh,htm,e1];exact S'
  · refine StepOk.run S I.grd hr c1 fun Q K hK=>?_
    unfold goD at hgo
    by_cases hL:y.op.isL=true
    · rw [hL] at hgo
      obtain ⟨tm1,h1,h2⟩:=Option.map_eq_some_iff.1 hgo
      have e1:(st (j+1)).1=tm1:=(Prod.mk.inj h2).1.symm
      have hkl:=isL_kl hL
      refine step_loc (tab:=tab) S hrefs I.op I.dst I.refs hL hr h1 Q K fun a' w' β' S'=>hK a' w' ⟨φ,β',?_,dom_same R dom E hj⟩
      rw [other (by rw [hkl];simp) (by rw [hkl];simp),htm,e1];exact S'
    · have hL:y.op.isL=false:=by cases h:y.op.isL <;> simp_all
      rw [hL] at hgo
      obtain ⟨⟨u,G1⟩,h1,h2⟩:=Option.map_eq_some_iff.1 hgo
      have e1:(st (j+1)).1=put (st j).1 y.dst u:=(Prod.mk.inj h2).1.symm
      have e2:(st (j+1)).2=G1:=(Prod.mk.inj h2).2.symm
      subst e2
      have hnr:=opD_noref h1
      have pureCase:∀ (G G':GH),y.op.kl≠.al→y.op.kl≠.act→PureOk P φ β a w mo G G' u→mo.wp P a w K Q:=fun G G' k1 k2 hp=>by
        refine step_pure (tm:=(st j).1) S I.dst hL hnr hp Q K fun a' w' S'=>hK a' w' ⟨φ,β,?_,dom_same R dom E hj⟩
        rw [other k1 k2,htm,e1];exact S'
      rcases kl_cases y.op.kl with hk | hk | hk | hk | hk | hk
      · exact pureCase _ _ (by rw [hk];simp) (by rw [hk];simp) (sound_pure hk I.op h1 hrd)
      · -- a reader
        have:∃ Gx,opD C (st j).1 Gx y.op=some (u,Gx)∧Look B.base φ Gx w:=by
          obtain ⟨m,m1,m2,m3,m4⟩:=cut_at (D:=D) ok cl items.length (Nat.le_refl _)
          have look:∀ k,k≤items.length→(∀ (i:Nat) (x:DO),i<k→items[i]? = some x→x.op.kl = .act→D i=true)→(∀ (i:Nat) (x:DO),k≤i→items[i]? = some x→x.op.kl = .act→D i=false)→Look B.base φ (st k).2 w:=fun k hk a1 a2 id o L ho hL=>by
            have:=look_at R hk a1 a2 dom fresh ho (by simp [hL])
            obtain ⟨L',hL',r⟩:=S.H.obj id o this
            rw [hL] at hL';cases hL';exact r
          have here:opD C (st j).1 (st j).2 y.op=some (u,(st j).2):=by
            have:=opD_same (by rw [hk];simp) (by rw [hk];simp) h1
            rw [this] at h1;exact h1
          by_cases hmj:m≤j
          · refine ⟨_,here,look j (by omega) (fun i x hi hx hxk=>?_) fun i x hi hx hxk=>m3 i x (by omega) (List.getElem?_eq_some_iff.1 hx).1 hx hxk⟩
            rcases N.early ok hi hx (by rw [hxk];simp) with k | k
            · exact k
            · exact absurd hk ((apart_act k).1 hxk).2
          · rcases m4 with m4 | ⟨c,x,rfl,hx,hxk,hDc⟩
            · omega
            · have hne:c≠j:=fun e=>by subst e;rw [N.notyet] at hDc;cases hDc
              have hre:=(apart_act (N.late ok (by omega) hx (by rw [hxk];simp) hDc)).2.2 hk hxk
              obtain ⟨v,r1,r2⟩:=reread R ok N.at_ (by omega:j<c) hk (by omega) hre c1
              rw [here] at r2
              have:u=v:=by simpa using r2
              subst this
              exact ⟨_,r1,look (c+1) m1 m2 fun i x hi hx hxk=>m3 i x hi (List.getElem?_eq_some_iff.1 hx).1 hx hxk⟩
        obtain ⟨Gx,hx,hlook⟩:=this
        exact pureCase _ _ (by rw [hk];simp) (by rw [hk];simp) (sound_rd hk I.op hx hlook hrd)
      · -- memory is made
        have hp:=sound_al (P:=P) (φ:=φ) (β:=β) (a:=a) (w:=w) hk I.op h1 hrd
        obtain ⟨obj,hG⟩:=opD_al hk h1
        have hnx:(st j).2.next<(st (j+1)).2.next:=by rw [hG,GH.next_alloc];omega
        refine step_alloc (tm:=(st j).1) S I.dst hL hnr (free _ (Nat.le_refl _) hnx) (by have:=wfj.2;omega) hp Q K fun a' w' ψ A S'=>hK a' w' ⟨ψ,β,?_,dom_next R dom E hj A.dom⟩
        have hh:hS st items D' items.length=fun i=>if i=(st j).2.next then (st (j+1)).2.get i else hS st items D items.length i:=by
          funext i
          rw [hS_al R ok N hk E i]
          unfold madeAt
          split
          · rename_i e;rw [hG,GH.get_alloc,if_pos e];rfl
          · rfl
        rw [hh,htm,e1];exact S'
      · -- memory is written
        have hact:=fun id=>hS_act R ok N hk E id
        have exn:∀ id,exS st items D j items.length id≠none→(st (j+1)).2.next≤id:=fun id h=>exS_high R _ (Nat.le_refl _) h
        have hsub:∀ id ob,(st j).2.get id=some ob→hS st items D items.length id=some ob:=fun id ob h=>by
          rw [(hact id).1,h]
          cases he:exS st items D j items.length id with
          | none=>rfl
          | some o' =>
            have:=exn id (by simp [he])
            rw [wfj.1 id (by omega)] at h;cases h
        have hp:=sound_act (P:=P) (base:=B.base) (φ:=φ) (β:=β) (a:=a) (w:=w) hC hk I.op h1 (S.H.restrict hsub) wfj (Nat.le_trans S.hb S.size) free hrd
        refine step_act (tm:=(st j).1) (ex:=exS st items D j items.length) (h':=hS st items D' items.length) S I.dst hL hnr hsub (fun id=>(hact id).1) (fun id h=>?_) (fun id=>(hact id).2) hp Q K fun a' w' ψ A S'=>hK a' w' ⟨ψ,β,?_,dom_next R dom E hj A.dom⟩
        · have:=exn id h
          exact ⟨wfj'.1 id this,wfj.1 id (by omega)⟩
        · rw [htm,e1];exact S'
      · rw [loc_isL hk] at hL;cases hL
      · exact absurd hk N.nchk
end
end Go.Proofs.D
/- A region,in all its orders. -/
set_option linter.unusedVariables false
namespace Go.Proofs.D
open Go
section
variable {B:Beg} {P:Program} {C:Call} {φ φ0:Phi} {β:Nat→Nat} {a:Act} {w:World} {mops:Array Oper} {mo:Oper} {tab:List (Nat×List Nat)}
variable {st:Nat→TM×GH} {items:List DO} {L L':Nat→Bool} {ord:Nat→Nat→Prop}
def onItems (items:List DO) (ord:Nat→Nat→Prop) (i k:Nat):Prop:=∃ x z,items[i]? = some x∧items[k]? = some z∧x.op.kl≠.chk∧z.op.kl≠.chk∧ord x.ix z.ix
structure RegChk (P:Program) (nr:Nat) (mops:Array Oper) (tab:List (Nat×List Nat)) (items:List DO) (ord:Nat→Nat→Prop):Prop where
  ok:RegOk items (onItems items ord)
  item:∀ (i:Nat) x,items[i]? = some x→x.op.kl≠.chk→∃ mo,mops[x.ix]? = some mo∧ItemOk P nr mops tab mo x
  surj:∀ k,k<mops.size→∃ (j:Nat) (x:DO),items[j]? = some x∧x.op.kl≠.chk∧x.ix=k
  inj:∀ (i j:Nat) x y,items[i]? = some x→items[j]? = some y→x.op.kl≠.chk→y.op.kl≠.chk→x.ix=y.ix→i=j
def DL (items:List DO) (L:Nat→Bool) (i:Nat):Bool:=match items[i]? with
  | some x=>!decide (x.op.kl = .chk)&&L x.ix
  | none=>false
theorem DL_at {i:Nat} {x:DO} (h:items[i]? = some x) (hc:x.op.kl≠.chk):DL items L i=L x.ix:=by unfold DL;rw [h];simp [hc]
def Inv (B:Beg) (st:Nat→TM×GH) (items:List DO) (φ0:Phi) (L:Nat→Bool) (a:Act) (w:World):Prop :=
  ∃ φ β,StR B φ β (hS st items (DL items L) items.length) (tmS st items (DL items L) items.length) a w∧Dom st items (DL items L) φ0 φ
theorem op_step (R:Run C items st) (X:RegChk P B.nr mops tab items ord) (hC:SoundC P B.base C) (hrefs:B.refs=refsOf tab) (fresh:∀ id,(st 0).2.next≤id→id<(st items.length).2.next→φ0 id=none)
    (cl:∀ i k,ord i k→L k=true→L i=true) {k:Nat} (hk:k<mops.size) (hn:L k=false) (hp:∀ i,ord i k→L i=true) (h1:L' k=true) (h2:∀ i,i≠k→L' i=L i)
    (hI:Inv B st items φ0 L a w) {Q:Exit→Act→World→Prop} {K:Act→World→Prop} (hK:∀ a' w',Inv B st items φ0 L' a' w'→K a' w'):wpOp P mops Q k K a w:=by
  obtain ⟨φ,β,S,dom⟩:=hI
  obtain ⟨j,y,hy,hc,rfl⟩:=X.surj k hk
  obtain ⟨mo,hmo,I⟩:=X.item j y hy hc
  have N:Next items (onItems items ord) (DL items L) j y:=⟨hy,hc,fun i ⟨x,z,e1,e2,c1,c2,o⟩=>by
      rw [hy] at e2;cases e2
      rw [DL_at e1 c1];exact hp _ o,by rw [DL_at hy hc];exact hn,fun i ⟨x,z,e1,e2,c1,c2,o⟩ hD=>by
      rw [hy] at e1;cases e1
      rw [DL_at e2 c2] at hD
      rw [cl _ _ o hD] at hn;cases hn⟩
  have E:Done items (DL items L) (DL items L') j:=⟨by rw [DL_at hy hc];exact h1,fun i x hx hxc ne=>by
    rw [DL_at hx hxc,DL_at hx hxc]
    exact h2 _ fun e=>ne (X.inj i j x y hx hy hxc hc e)⟩
  have cl':∀ i k,onItems items ord i k→DL items L k=true→DL items L i=true:=fun i k ⟨x,z,e1,e2,c1,c2,o⟩ hD=>by
    rw [DL_at e2 c2] at hD
    rw [DL_at e1 c1];exact cl _ _ o hD
  have:=region_step R X.ok hC hrefs fresh N cl' E I S dom Q K hK
  unfold wpOp
  rw [hmo]
  exact this
structure RegEnd (B:Beg) (st:Nat→TM×GH) (n:Nat) (φ0:Phi) (a:Act) (w:World):Prop where
  ex:∃ φ β,StR B φ β (st n).2.get (fun t=>(st n).1[t]?) a w∧∀ id,φ id≠none→φ0 id≠none∨((st 0).2.next≤id∧id<(st n).2.next)
theorem inv_end (R:Run C items st) (X:RegChk P B.nr mops tab items ord) (h:∀ k,k<mops.size→L k=true) (hI:Inv B st items φ0 L a w):RegEnd B st items.length φ0 a w:=by
  obtain ⟨φ,β,S,dom⟩:=hI
  have hD:∀ i x,items[i]? = some x→x.op.kl≠.chk→DL items L i=true:=fun i x hx hc=>by
    rw [DL_at hx hc]
    obtain ⟨mo,hmo,_⟩:=X.item i x hx hc
    exact h _ (Array.getElem?_eq_some_iff.1 hmo).1
  have e1:tmS st items (DL items L) items.length=fun t=>(st items.length).1[t]?:=funext fun t=>tm_all R X.ok hD t
  have e2:hS st items (DL items L) items.length=(st items.length).2.get:=funext fun id=>hS_low R (Nat.le_refl _) (fun i x _ hx hk=>hD i x hx (by rcases hk with e | e <;> rw [e] <;> simp)) id
  rw [e1,e2] at S
  refine ⟨φ,β,S,fun id hid=>?_⟩
  rcases dom id hid with d | ⟨i,hi,_,d1,d2⟩
  · exact .inl d
  · have m1:=R.mono 0 i (by omega) (by omega)
    have m2:=R.mono (i+1) items.length (by omega) (Nat.le_refl _)
    exact .inr ⟨by omega,by omega⟩
theorem inv_start (X:RegChk P B.nr mops tab items ord) (h:∀ k,L k=false) (S:StR B φ β (st 0).2.get (fun t=>(st 0).1[t]?) a w):Inv B st items φ L a w:=by
  have hD:∀ i,DL items L i=false:=fun i=>by
    unfold DL
    split
    · simp [h]
    · rfl
  refine ⟨φ,β,?_,fun id hid=>.inl hid⟩
  have e1:tmS st items (DL items L) items.length=fun t=>(st 0).1[t]?:=funext fun t=>tm_none (fun i _ _ _=>hD i) X.ok t _
  have e2:hS st items (DL items L) items.length=(st 0).2.get:=by
    funext id
    have:∀ m,hS st items (DL items L) m id=(st 0).2.get id:=by
      intro m
      induction m with
      | zero=>rfl
      | succ m ih =>
        simp only [hS,hD,Bool.false_eq_true,false_and,if_false,ih]
        split <;> rfl
    exact this _
  rw [e1,e2];exact S
/-! ### The model's own orders -/
def unlisted (l:Array Bool):Nat→Nat
  | 0=>0
  | n+1=>(if l.getD n true then 0 else 1)+unlisted l n
theorem unlisted_set {l:Array Bool} {i:Nat} (hi:i<l.size) (hl:l.getD i true=false):∀ n,unlisted (l.setIfInBounds i true) n+(if i<n then 1 else 0)=unlisted l n
  | 0=>by simp [unlisted]
  | n+1=>by
    have ih:=unlisted_set hi hl n
    simp only [unlisted]
    by_cases e:i=n
    · subst e
      have:(l.setIfInBounds i true).getD i true=true:=by simp [Array.getD_eq_getD_getElem?,hi]
      rw [this,hl]
      simp at ih ⊢;omega
    · have:(l.setIfInBounds i true).getD n true=l.getD n true:=by simp [Array.getD_eq_getD_getElem?,Array.getElem?_setIfInBounds_ne e]
      rw [this]
      by_cases h:i<n
      · have h':i<n+1:=by omega
        simp only [h,h',if_true] at ih ⊢;omega
      · have h':¬ i<n+1:=by omega
        simp only [h,h',if_false] at ih ⊢;omega
theorem unlisted_zero {l:Array Bool}:∀ n,unlisted l n=0→∀ i,i<n→l.getD i true=true
  | 0,_,i,h=>by omega
  | n+1,h,i,hi=>by
    simp only [unlisted] at h
    by_cases e:i=n
    · subst e
      cases hl:l.getD i true with
      | true=>rfl
      | false=>rw [hl] at h;simp at h
    · exact unlisted_zero n (by omega) i (by omega)
end
end Go.Proofs.D
/- A region,in all its orders. -/
set_option linter.unusedVariables false
namespace Go.Proofs.D
open Go
section
variable {B:Beg} {P:Program} {C:Call} {φ φ0:Phi} {β:Nat→Nat} {a:Act} {w:World} {mops:Array Oper} {mo:Oper} {tab:List (Nat×List Nat)}
variable {st:Nat→TM×GH} {items:List DO} {L L':Nat→Bool} {ord:Nat→Nat→Prop}
def EdgeB (mops:Array Oper) (i k:Nat):Prop:=∃ mo e,mops[k]? = some mo∧e∈mo.after∧Region.binds .any e=true∧e.on=i
inductive Bef (E:Nat→Nat→Prop):Nat→Nat→Prop
  | one {i k:Nat}:E i k→Bef E i k
  | step {i m k:Nat}:Bef E i m→E m k→Bef E i k
theorem Bef.closed {E:Nat→Nat→Prop} (cl:∀ i k,E i k→L k=true→L i=true) {i k:Nat} (h:Bef E i k):L k=true→L i=true:=by
  induction h with
  | one e=>exact cl _ _ e
  | step _ e ih=>exact fun hk=>ih (cl _ _ e hk)
theorem StR.drew {h:Hp} {tm:Nat→Option TV} (S:StR B φ β h tm a w) (n:Nat):StR B φ β h tm a { w with drawn:=n } :=
  ⟨S.H.keep (.refl _) fun _ _ _ _ _=>rfl,S.hb,S.sl,S.bx,S.inj,S.rf,S.df,S.sz,S.le,S.size,S.keep,S.nb,S.os,S.tape,S.output⟩
theorem ready_of {l:Array Bool} (hs:l.size=mops.size) {k:Nat} (hk:k<mops.size) (hl:l.getD k true=false) (hp:∀ i,EdgeB mops i k→l.getD i false=true):k∈Region.ready .any mops l:=by
  unfold Region.ready
  rw [List.mem_filter,List.mem_range]
  refine ⟨hk,?_⟩
  rw [hl]
  have:mops[k]? = some mops[k]:=Array.getElem?_eq_getElem hk
  simp only [this,Option.map_some,Option.getD_some,Bool.not_false,Bool.true_and,Array.all_eq_true]
  intro i hi
  cases hb:Region.binds .any mops[k].after[i] with
  | false=>rfl
  | true=>simp only [Bool.not_true,Bool.false_or];exact hp _ ⟨_,_,this,Array.getElem_mem hi,hb,rfl⟩
theorem of_ready {l:Array Bool} {k:Nat} (h:k∈Region.ready .any mops l):k<mops.size∧l.getD k true=false∧∀ i,EdgeB mops i k→l.getD i false=true:=by
  unfold Region.ready at h
  rw [List.mem_filter,List.mem_range] at h
  obtain ⟨hk,h⟩:=h
  have hm:mops[k]? = some mops[k]:=Array.getElem?_eq_getElem hk
  simp only [hm,Option.map_some,Option.getD_some,Bool.and_eq_true,Bool.not_eq_true',Array.all_eq_true] at h
  refine ⟨hk,h.1,fun i ⟨mo,e,e1,e2,e3,e4⟩=>?_⟩
  rw [hm] at e1;cases e1
  obtain ⟨n,hn,e5⟩:=Array.getElem_of_mem e2
  have:=h.2 n hn
  rw [e5,e3,e4] at this
  simpa using this
theorem getD_both {l:Array Bool} {i:Nat} (h:i<l.size) (b c:Bool):l.getD i b=l.getD i c:=by
  simp [Array.getD_eq_getD_getElem?,Array.getElem?_eq_getElem h]
theorem any_orders (R:Run C items st) (X:RegChk P B.nr mops tab items (Bef (EdgeB mops))) (hC:SoundC P B.base C) (hrefs:B.refs=refsOf tab) (fresh:∀ id,(st 0).2.next≤id→id<(st items.length).2.next→φ0 id=none)
    (small:∀ i k,EdgeB mops i k→i<k) {Q:Exit→Act→World→Prop} (hQ:∀ a w,RegEnd B st items.length φ0 a w→Q .normal a w) :
    ∀ (fuel:Nat) (l:Array Bool) (a:Act) (w:World),l.size=mops.size→(∀ i k,EdgeB mops i k→l.getD k false=true→l.getD i false=true)→unlisted l mops.size≤fuel→Inv B st items φ0 (fun k=>l.getD k false) a w→wpAny P .any mops Q fuel l a w:=by
  have done:∀ (l:Array Bool) (a:Act) (w:World),l.size=mops.size→Region.ready .any mops l=[]→Inv B st items φ0 (fun k=>l.getD k false) a w→Q .normal a w:=fun l a w hs he hI=>by
    refine hQ _ _ (inv_end R X (fun k hk=>?_) hI)
    induction k using Nat.strongRecOn with
    | _ k ih =>
      cases hl:l.getD k false with
      | true=>rfl
      | false =>
        have:k∈Region.ready .any mops l:=ready_of hs hk (by rw [getD_both (by omega) true false];exact hl) fun i e=>ih i (small i k e) (by have:=small i k e;omega)
        rw [he] at this;cases this
  intro fuel
  induction fuel with
  | zero =>
    intro l a w hs cl hu hI
    have all:=unlisted_zero mops.size (by omega:unlisted l mops.size=0)
    have he:Region.ready .any mops l=[]:=by
      cases hr:Region.ready .any mops l with
      | nil=>rfl
      | cons k ks =>
        obtain ⟨hk,h2,_⟩:=of_ready (mops:=mops) (l:=l) (k:=k) (by rw [hr];simp)
        rw [all k hk] at h2;cases h2
    exact ⟨he,done l a w hs he hI⟩
  | succ fuel ih =>
    intro l a w hs cl hu hI
    refine ⟨fun he=>done l a w hs he hI,fun k hk=>?_⟩
    obtain ⟨k1,k2,k3⟩:=of_ready hk
    have kf:l.getD k false=false:=by rw [getD_both (by omega) false true];exact k2
    have hset:∀ i,i≠k→(l.setIfInBounds k true).getD i false=l.getD i false:=fun i ne=>by simp [Array.getD_eq_getD_getElem?,Array.getElem?_setIfInBounds_ne (Ne.symm ne)]
    have hself:(l.setIfInBounds k true).getD k false=true:=by simp [Array.getD_eq_getD_getElem?,hs,k1]
    refine op_step (L:=fun k=>l.getD k false) (L':=fun i=>(l.setIfInBounds k true).getD i false) R X hC hrefs fresh (fun i m o=>Bef.closed cl o) k1 kf (fun i o=>?_) hself hset hI fun a' w' hI'=>ih _ a' w' (by simp [hs]) (fun i m e hm=>?_) ?_ hI'
    · cases o with
      | one e=>exact k3 i e
      | step o e=>exact Bef.closed cl o (k3 _ e)
    · by_cases em:m=k
      · subst em
        have:=small i m e
        rw [hset i (by omega)];exact k3 i e
      · rw [hset m em] at hm
        by_cases ei:i=k
        · subst ei;exact hself
        · rw [hset i ei];exact cl i m e hm
    · have:=unlisted_set (l:=l) (by omega) k2 mops.size
      rw [if_pos k1] at this;omega
theorem in_turn (R:Run C items st) (X:RegChk P B.nr mops tab items (· < ·)) (hC:SoundC P B.base C) (hrefs:B.refs=refsOf tab) (fresh:∀ id,(st 0).2.next≤id→id<(st items.length).2.next→φ0 id=none)
    {Q:Exit→Act→World→Prop} (hQ:∀ a w,RegEnd B st items.length φ0 a w→Q .normal a w) :
    ∀ (n p:Nat) (a:Act) (w:World),p+n=mops.size→Inv B st items φ0 (fun k=>decide (k<p)) a w→wpOps P mops Q (List.range' p n) a w:=by
  intro n
  induction n with
  | zero =>
    intro p a w hp hI
    exact hQ _ _ (inv_end R X (fun k hk=>by simp;omega) hI)
  | succ n ih =>
    intro p a w hp hI
    rw [List.range'_succ,wpOps_cons]
    refine op_step (L:=fun k=>decide (k<p)) (L':=fun k=>decide (k<p+1)) (k:=p) R X hC hrefs fresh (fun i k o hk=>?_) (by omega) (by simp) (fun i o=>by simpa using o) (by simp) (fun i ne=>?_) hI fun a' w' hI'=>ih _ a' w' (by omega) hI'
    · simp at hk ⊢;omega
    · simp only [decide_eq_decide];omega
theorem region_sound {id:Nat} {draw:Bool} (hmix:P.follows .mixedOrders=true) (R:Run C items st) (X:RegChk P B.nr mops tab items (if draw then Bef (EdgeB mops) else (· < ·))) (small:∀ i k,EdgeB mops i k→i<k)
    (hC:SoundC P B.base C) (hrefs:B.refs=refsOf tab) (fresh:∀ id,(st 0).2.next≤id→id<(st items.length).2.next→φ id=none)
    (S:StR B φ β (st 0).2.get (fun t=>(st 0).1[t]?) a w) {Q:Exit→Act→World→Prop} (hQ:∀ a w,RegEnd B st items.length φ a w→Q .normal a w):(Code.region id mops draw).wp P Q a w:=by
  cases draw with
  | true =>
    simp only [if_true] at X
    refine wp_region_any hmix (any_orders R X hC hrefs fresh small hQ _ _ _ _ (by simp) (fun i k e hk=>?_) ?_ (inv_start X (fun k=>?_) (S.drew _)))
    · simp [Array.getD_eq_getD_getElem?,Array.getElem?_replicate] at hk
      split at hk <;> simp at hk
    · have:∀ n,unlisted (Array.replicate mops.size false) n≤n:=by
        intro n
        induction n with
        | zero=>exact Nat.le_refl _
        | succ n ih=>simp only [unlisted];split <;> omega
      exact this _
    · simp only [Array.getD_eq_getD_getElem?,Array.getElem?_replicate]
      split <;> rfl
  | false =>
    simp only [Bool.false_eq_true,if_false] at X
    refine wp_region ?_
    rw [List.range_eq_range']
    exact in_turn R X hC hrefs fresh hQ _ _ _ _ (by omega) (inv_start X (fun k=>by simp) S)
end
end Go.Proofs.D
/- What is looked at,once for a region. -/
set_option linter.unusedVariables false
namespace Go.Proofs.D
open Go
def isChk (x:DO):Bool:=match x.op.kl with
  | .chk=>true
  | _=>false
theorem isChk_iff {x:DO}:isChk x=true↔x.op.kl = .chk:=by unfold isChk;cases x.op.kl <;> simp
def okItem (P:Program) (nr:Nat) (mops:Array Oper) (tab:List (Nat×List Nat)) (x:DO):Bool:=match isChk x with
  | true=>x.wr.isEmpty
  | false=>match mops[x.ix]? with
    | some mo=>okOp P nr mo x.op&&okGrd mops mo x&&okDst nr mo.dst x.dst&&okRefs nr tab x&&(decide (x.wr=x.dst.toList)||x.grd.isNone)
    | none=>false
def ordB (draw:Bool) (ps:List Nat) (i k:Nat):Bool:=match draw with
  | true=>(ps.getD k 0).testBit i
  | false=>Nat.ble (i+1) k
def okWith (items:List DO) (draw:Bool) (ps:List Nat) (x:DO) (i:Nat):List DO→Nat→Bool
  | [],_=>true
  | y::ys,j=>(isChk y||((ordB draw ps x.ix y.ix||apartOk items i j x y)&&!Nat.beq x.ix y.ix))&&okWith items draw ps x i ys (j+1)
def okPairs (items:List DO) (draw:Bool) (ps:List Nat):List DO→Nat→Bool
  | [],_=>true
  | x::xs,i=>(isChk x||okWith items draw ps x i xs (i+1))&&okPairs items draw ps xs (i+1)
def smallB:List Oper→Nat→Bool
  | [],_=>true
  | o::os,k=>(o.after.toList.all fun e=>!Region.binds .any e||Nat.ble (e.on+1) k)&&smallB os (k+1)
def okReg (P:Program) (nr:Nat) (mops:Array Oper) (tab:List (Nat×List Nat)) (draw:Bool) (items:List DO):Bool :=
  items.all (okItem P nr mops tab)&&okPairs items draw (preds mops.toList) items 0&&smallB mops.toList 0&&(List.range mops.size).all fun k=>items.any fun x=>!isChk x&&Nat.beq x.ix k
section
variable {P:Program} {nr:Nat} {mops:Array Oper} {tab:List (Nat×List Nat)} {items:List DO} {draw:Bool} {ps:List Nat}
theorem beq_ne {a b:Nat}:Nat.beq a b=false↔a≠b:=by
  constructor
  · intro h e;rw [(Nat.beq_eq ▸ e:Nat.beq a b=true)] at h;cases h
  · intro h;cases e:Nat.beq a b with
    | false=>rfl
    | true=>exact absurd (Nat.eq_of_beq_eq_true e) h
theorem okWith_spec {x:DO} {i:Nat}:∀ (ys:List DO) (j:Nat),okWith items draw ps x i ys j=true→∀ (k:Nat) y,ys[k]? = some y→isChk y=true∨((ordB draw ps x.ix y.ix=true∨apartOk items i (j+k) x y=true)∧x.ix≠y.ix)
  | [],_,_,k,y,h=>by simp at h
  | z::ys,j,h,k,y,hy=>by
    simp only [okWith,Bool.and_eq_true,Bool.or_eq_true,Bool.not_eq_true',beq_ne] at h
    cases k with
    | zero=>simp at hy;subst hy;simpa using h.1
    | succ k =>
      have:=okWith_spec ys (j+1) h.2 k y (by simpa using hy)
      rwa [show j+1+k=j+(k+1) by omega] at this
theorem okPairs_spec:∀ (xs:List DO) (i:Nat),okPairs items draw ps xs i=true→∀ (m n:Nat) x y,m<n→xs[m]? = some x→xs[n]? = some y→isChk x=true∨isChk y=true∨((ordB draw ps x.ix y.ix=true∨apartOk items (i+m) (i+n) x y=true)∧x.ix≠y.ix)
  | [],_,_,m,n,x,y,_,h,_=>by simp at h
  | z::xs,i,h,m,n,x,y,hmn,hx,hy=>by
    simp only [okPairs,Bool.and_eq_true,Bool.or_eq_true] at h
    cases n with
    | zero=>omega
    | succ n =>
      cases m with
      | zero =>
        simp at hx;subst hx
        rcases h.1 with h1 | h1
        · exact .inl h1
        · have:=okWith_spec xs (i+1) h1 n y (by simpa using hy)
          rw [show i+1+n=i+(n+1) by omega] at this
          exact .inr this
      | succ m =>
        have:=okPairs_spec xs (i+1) h.2 m n x y (by omega) (by simpa using hx) (by simpa using hy)
        rwa [show i+1+m=i+(m+1) by omega,show i+1+n=i+(n+1) by omega] at this
theorem smallB_spec:∀ (os:List Oper) (k:Nat),smallB os k=true→∀ (n:Nat) mo e,os[n]? = some mo→e∈mo.after→Region.binds .any e=true→e.on<k+n
  | [],_,_,n,mo,e,h,_,_=>by simp at h
  | o::os,k,h,n,mo,e,hm,he,hb=>by
    simp only [smallB,Bool.and_eq_true,List.all_eq_true,Bool.or_eq_true,Bool.not_eq_true',Nat.ble_eq] at h
    cases n with
    | zero =>
      simp at hm;subst hm
      rcases h.1 e (by simpa using he) with h1 | h1
      · rw [hb] at h1;cases h1
      · omega
    | succ n=>have:=smallB_spec os (k+1) h.2 n mo e (by simpa using hm) he hb;omega
theorem bits_fold (acc:List Nat) (i:Nat):∀ (es:List Edge) (m:Nat),(es.foldl (fun m e=>bif Region.binds .any e then (m ||| (1 <<< e.on)) ||| acc.getD e.on 0 else m) m).testBit i=true →
    m.testBit i=true∨∃ e∈es,Region.binds .any e=true∧(e.on=i∨(acc.getD e.on 0).testBit i=true)
  | [],m,h=>.inl h
  | e::es,m,h=>by
    rw [List.foldl_cons] at h
    rcases bits_fold acc i es _ h with h | ⟨e',h1,h2⟩
    · cases hb:Region.binds .any e with
      | false=>rw [hb] at h;exact .inl h
      | true =>
        rw [hb] at h
        simp only [cond_true,Nat.testBit_or,Bool.or_eq_true] at h
        rcases h with (h | h) | h
        · exact .inl h
        · refine .inr ⟨e,by simp,hb,.inl ?_⟩
          rw [Nat.testBit_shiftLeft] at h
          simp only [Bool.and_eq_true,decide_eq_true_eq] at h
          obtain ⟨h1,h2⟩:=h
          by_cases e0:i-e.on=0
          · omega
          · rw [Nat.testBit_eq_decide_div_mod_eq] at h2
            simp only [decide_eq_true_eq] at h2
            have:1 / 2 ^ (i-e.on)=0:=Nat.div_eq_of_lt (Nat.one_lt_two_pow e0)
            rw [this] at h2;simp at h2
        · exact .inr ⟨e,by simp,hb,.inr h⟩
    · exact .inr ⟨e',by simp [h1],h2⟩
theorem preds_spec:∀ (os:List Oper) (acc:List Nat) (pre:List Oper),mops.toList=pre++os→pre.length=acc.length→(∀ (k i:Nat),(acc.getD k 0).testBit i=true→Bef (EdgeB mops) i k) →
    ∀ (k i:Nat),((predsFrom os acc).getD k 0).testBit i=true→Bef (EdgeB mops) i k
  | [],acc,pre,_,_,h,k,i,hb=>h k i hb
  | o::os,acc,pre,he,hl,h,k,i,hb=>by
    refine preds_spec os _ (pre++[o]) (by rw [he];simp) (by simp [hl]) (fun k i hb=>?_) k i hb
    by_cases hk:k<acc.length
    · rw [List.getD_eq_getElem?_getD,List.getElem?_append_left hk,← List.getD_eq_getElem?_getD] at hb;exact h k i hb
    · by_cases e:k=acc.length
      · subst e
        rw [List.getD_eq_getElem?_getD,List.getElem?_append_right (Nat.le_refl _),Nat.sub_self] at hb
        simp only [List.getElem?_cons_zero,Option.getD_some] at hb
        have hm:mops[acc.length]? = some o:=by
          rw [← Array.getElem?_toList,he,← hl,List.getElem?_append_right (Nat.le_refl _),Nat.sub_self];rfl
        rcases bits_fold acc i _ _ hb with h0 | ⟨e,e1,e2,e3⟩
        · simp at h0
        · have ed:EdgeB mops e.on acc.length:=⟨o,e,hm,by simpa using e1,e2,rfl⟩
          rcases e3 with rfl | e3
          · exact .one ed
          · exact .step (h _ _ e3) ed
      · rw [List.getD_eq_getElem?_getD,List.getElem?_eq_none (by simp;omega)] at hb
        simp at hb
theorem okReg_spec (h:okReg P nr mops tab draw items=true):RegChk P nr mops tab items (if draw then Bef (EdgeB mops) else (· < ·))∧∀ i k,EdgeB mops i k→i<k:=by
  unfold okReg at h
  simp only [Bool.and_eq_true,List.all_eq_true,List.any_eq_true,List.mem_range,Bool.not_eq_true',Nat.beq_eq] at h
  obtain ⟨⟨⟨h1,h2⟩,h3⟩,h4⟩:=h
  have nchk:∀ {x:DO},x.op.kl≠.chk→isChk x=false:=fun {x} hx=>by
    cases e:isChk x with
    | false=>rfl
    | true=>exact absurd (isChk_iff.1 e) hx
  have pairs:=okPairs_spec items 0 h2
  have hord:∀ i k,ordB draw (preds mops.toList) i k=true→(if draw then Bef (EdgeB mops) else (· < ·)) i k:=fun i k ho=>by
    cases draw with
    | true=>exact preds_spec mops.toList [] [] rfl rfl (fun k i hb=>by simp at hb) k i ho
    | false=>simp only [ordB,Nat.ble_eq] at ho;exact ho
  refine ⟨⟨⟨fun i j x y hij hx hy cx cy=>?_,fun i x hx hc=>?_⟩,fun i x hx hc=>?_,fun k hk=>?_,fun i j x y hx hy cx cy e=>?_⟩,fun i k ⟨mo,e,e1,e2,e3,e4⟩=>?_⟩
  · rcases pairs i j x y hij hx hy with k | k | k
    · rw [nchk cx] at k;cases k
    · rw [nchk cy] at k;cases k
    · rw [Nat.zero_add,Nat.zero_add] at k
      rcases k.1 with k | k
      · exact .inl ⟨x,y,hx,hy,cx,cy,hord _ _ k⟩
      · exact .inr k
  · have:=h1 x (List.mem_of_getElem? hx)
    unfold okItem at this
    rw [isChk_iff.2 hc] at this
    simpa using this
  · have:=h1 x (List.mem_of_getElem? hx)
    unfold okItem at this
    rw [nchk hc] at this
    simp only at this
    split at this
    · rename_i mo hmo
      simp only [Bool.and_eq_true,Bool.or_eq_true,decide_eq_true_eq,Option.isNone_iff_eq_none] at this
      obtain ⟨⟨⟨⟨a1,a2⟩,a3⟩,a4⟩,a5⟩:=this
      exact ⟨mo,hmo,a1,a2,a3,a4,a5⟩
    · cases this
  · obtain ⟨x,hx,hc,e⟩:=h4 k hk
    obtain ⟨j,hj⟩:=List.mem_iff_getElem?.1 hx
    refine ⟨j,x,hj,fun k=>?_,e⟩
    rw [isChk_iff.2 k] at hc;cases hc
  · rcases Nat.lt_trichotomy i j with k | k | k
    · rcases pairs i j x y k hx hy with c | c | c
      · rw [nchk cx] at c;cases c
      · rw [nchk cy] at c;cases c
      · exact absurd e c.2
    · exact k
    · rcases pairs j i y x k hy hx with c | c | c
      · rw [nchk cy] at c;cases c
      · rw [nchk cx] at c;cases c
      · exact absurd e.symm c.2
  · subst e4
    have:=smallB_spec mops.toList 0 h3 k mo e (by rw [Array.getElem?_toList];exact e1) e2 e3
    omega
end
end Go.Proofs.D
/- Code,on both sides. -/
set_option linter.unusedVariables false
namespace Go.Proofs.D
open Go
def okCode (P:Program) (nr:Nat) (tab:List (Nat×List Nat)):DCode→Code→Bool
  | .cut _ b,c=>okCode P nr tab b c
  | .skip,.skip=>true
  | .region items,.region _ mops draw=>okReg P nr mops tab draw items
  | .seq a b,.seq c d=>okCode P nr tab a c&&okCode P nr tab b d
  | .cond s t e,.cond c x y=>okSrc nr c s&&okCode P nr tab t x&&okCode P nr tab e y
  | .block id b,.block id' c=>Nat.beq id id'&&okCode P nr tab b c
  | .loop _ b,.loop c=>okCode P nr tab b c
  | .exit id,.exit id'=>Nat.beq id id'
  | .ret,.ret=>true
  | _,_=>false
def DX.ex:DX→Exit
  | .normal=>.normal
  | .exit id=>.exit id
  | .ret=>.ret
section
variable {B:Beg} {P:Program} {C:Call} {φ:Phi} {β:Nat→Nat} {a:Act} {w:World} {tab:List (Nat×List Nat)} {tm tm':TM} {G G':GH} {N:Nat}
theorem opsD_pres (hC:PresC C):∀ (os:List DO) (tm:TM) (G:GH) (tm':TM) (G':GH),opsD C os tm G=some (tm',G')→Pres G G'
  | [],tm,G,tm',G',h=>by simp [opsD] at h;rw [h.2];exact .refl _
  | o::os,tm,G,tm',G',h=>by
    simp only [opsD] at h
    obtain ⟨⟨tm1,G1⟩,h1,h2⟩:=Option.bind_eq_some_iff.1 h
    exact (stepD_pres hC h1).trans (opsD_pres hC os _ _ _ _ h2)
def PresL (lp:List Nat→DCode→TM→GH→Option Out):Prop:=∀ keep b tm G x tm' G',lp keep b tm G=some (x,tm',G')→Pres G G'
theorem exD_pres (hC:PresC C) {lp:List Nat→DCode→TM→GH→Option Out} (hl:PresL lp):∀ (d:DCode) (tm:TM) (G:GH) (x:DX) (tm':TM) (G':GH),exD C lp d tm G=some (x,tm',G')→Pres G G':=by
  intro d
  induction d with
  | skip=>intro tm G x tm' G' h;simp [exD] at h;rw [h.2.2];exact .refl _
  | region ops=>intro tm G x tm' G' h;simp only [exD] at h;obtain ⟨p,h1,h2⟩:=Option.map_eq_some_iff.1 h;cases h2;exact opsD_pres hC _ _ _ _ _ h1
  | seq c d ihc ihd =>
    intro tm G x tm' G' h;simp only [exD] at h
    obtain ⟨⟨y,tm1,G1⟩,h1,h2⟩:=Option.bind_eq_some_iff.1 h
    have p1:=ihc _ _ _ _ _ h1
    cases y with
    | normal=>exact p1.trans (ihd _ _ _ _ _ h2)
    | exit id=>simp at h2;rw [← h2.2.2];exact p1
    | ret=>simp at h2;rw [← h2.2.2];exact p1
  | cond s t e iht ihe =>
    intro tm G x tm' G' h;simp only [exD] at h
    obtain ⟨b,_,h⟩:=Option.bind_eq_some_iff.1 h
    cases b with
    | true=>exact iht _ _ _ _ _ h
    | false=>exact ihe _ _ _ _ _ h
  | block id b ih =>
    intro tm G x tm' G' h;simp only [exD] at h
    obtain ⟨⟨y,tm1,G1⟩,h1,h2⟩:=Option.map_eq_some_iff.1 h
    have p1:=ih _ _ _ _ _ h1
    have:G' = G1:=by
      cases y with
      | exit id'=>simp only [unblock] at h2;split at h2 <;> cases h2 <;> rfl
      | normal=>cases h2;rfl
      | ret=>cases h2;rfl
    rw [this];exact p1
  | loop keep b _=>intro tm G x tm' G' h;exact hl _ _ _ _ _ _ _ h
  | cut keep b ih=>intro tm G x tm' G' h;exact ih _ _ _ _ _ h
  | exit id=>intro tm G x tm' G' h;simp [exD] at h;rw [h.2.2];exact .refl _
  | ret=>intro tm G x tm' G' h;simp [exD] at h;rw [h.2.2];exact .refl _
theorem loopD_pres (hC:PresC C):∀ n,PresL (loopD C n)
  | 0=>fun keep b tm G x tm' G' h=>by simp [loopD] at h
  | n+1=>fun keep b tm G x tm' G' h=>by
    simp only [loopD] at h
    obtain ⟨⟨y,tm1,G1⟩,h1,h2⟩:=Option.bind_eq_some_iff.1 h
    have p1:=exD_pres hC (loopD_pres hC n) _ _ _ _ _ _ h1
    cases y with
    | normal=>exact p1.trans (loopD_pres hC n _ _ _ _ _ _ _ h2)
    | exit id=>simp at h2;rw [← h2.2.2];exact p1
    | ret=>simp at h2;rw [← h2.2.2];exact p1
structure At (B:Beg) (tm:TM) (G:GH) (a:Act) (w:World):Prop where
  ex:∃ φ β,StR B φ β G.get (fun t=>tm[t]?) a w∧∀ id,φ id≠none→B.φ id≠none∨(B.G.next≤id∧id<G.next)
  wf:G.wf
  le:B.G.next≤G.next
theorem restr_get:∀ (keep:List Nat) (i:Nat) (tm:TM) (t:Nat),(restr keep i tm)[t]? = tm[t]?∨(restr keep i tm)[t]? = some .und
  | keep,i,[],t=>by left;cases keep <;> rfl
  | [],i,x::xs,0=>by right;rfl
  | [],i,x::xs,t+1=>by simp only [restr,List.getElem?_cons_succ];exact restr_get [] (i+1) xs t
  | j::js,i,x::xs,t=>by
    simp only [restr]
    split
    · cases t with
      | zero=>left;rfl
      | succ t=>simp only [List.getElem?_cons_succ];exact restr_get js (i+1) xs t
    · cases t with
      | zero=>right;rfl
      | succ t=>simp only [List.getElem?_cons_succ];exact restr_get (j::js) (i+1) xs t
theorem StR.less {h:Hp} {f g:Nat→Option TV} (S:StR B φ β h f a w) (hfg:∀ t x,g t=some x→x≠.und→f t=some x):StR B φ β h g a w :=
  ⟨S.H,S.hb,fun n x hx u1 u2=>S.sl n x (hfg n x hx u1) u1 u2,fun n cs hx=>S.bx n cs (hfg n _ hx (by simp)),fun n m cs ds hx hy=>S.inj n m cs ds (hfg n _ hx (by simp)) (hfg m _ hy (by simp)),
    fun n b off hx=>S.rf n b off (hfg n _ hx (by simp)),S.df,S.sz,S.le,S.size,S.keep,S.nb,S.os,S.tape,S.output⟩
theorem At.restr (A:At B tm G a w) (keep:List Nat):At B (restr keep 0 tm) G a w:=by
  obtain ⟨φ,β,S,d⟩:=A.ex
  refine ⟨⟨φ,β,S.less fun t x hx u=>?_,d⟩,A.wf,A.le⟩
  rcases restr_get keep 0 tm t with e | e
  · rw [← e];exact hx
  · rw [e] at hx;cases hx;exact absurd rfl u
def CodeOk (B:Beg) (P:Program) (c:Code) (tm:TM) (G:GH) (x:DX) (tm':TM) (G':GH):Prop :=
  ∀ a w (Q:Exit→Act→World→Prop),At B tm G a w→(∀ id,B.G.next≤id→id<G'.next→B.φ id=none)→(∀ a' w',At B tm' G' a' w'→Q x.ex a' w')→c.wp P Q a w
theorem region_ok {id:Nat} {mops:Array Oper} {draw:Bool} {items:List DO} (hmix:P.follows .mixedOrders=true) (hC:SoundC P B.base C) (hP:PresC C) (hrefs:B.refs=refsOf tab) (hok:okReg P B.nr mops tab draw items=true)
    (h:opsD C items tm G=some (tm',G')):CodeOk B P (.region id mops draw) tm G .normal tm' G':=by
  intro a w Q A fresh hQ
  obtain ⟨st,s0,sn,hs⟩:=opsD_trace C items tm G tm' G' h
  obtain ⟨X,small⟩:=okReg_spec hok
  obtain ⟨φ,β,S,d⟩:=A.ex
  have R:Run C items st:=⟨hs,hP,by rw [s0];exact A.wf⟩
  obtain ⟨wf',le'⟩:=opsD_pres hP _ _ _ _ _ h A.wf
  refine region_sound (φ:=φ) (β:=β) hmix R X small hC hrefs (fun id h1 h2=>?_) (by rw [s0];exact S) fun a' w' E=>hQ a' w' ?_
  · rw [s0] at h1;rw [sn] at h2
    simp only at h1 h2
    cases hφ:φ id with
    | none=>rfl
    | some L =>
      rcases d id (by simp [hφ]) with k | k
      · exact absurd (fresh id (by have:=A.le;omega) h2) k
      · omega
  · obtain ⟨φ',β',S',d'⟩:=E.ex
    rw [sn] at S' d'
    rw [s0] at d'
    simp only at S' d'
    refine ⟨⟨φ',β',S',fun id hid=>?_⟩,wf',Nat.le_trans A.le le'⟩
    rcases d' id hid with k | k
    · rcases d id k with k | k
      · exact .inl k
      · exact .inr ⟨k.1,by omega⟩
    · exact .inr ⟨by have:=A.le;omega,k.2⟩
end
end Go.Proofs.D
/- Code,on both sides. -/
set_option linter.unusedVariables false
namespace Go.Proofs.D
open Go
theorem exists_min (p:Nat→Prop) (h:∃ n,p n):∃ n,p n∧∀ m,p m→n≤m:=by
  obtain ⟨n,hn⟩:=h
  induction n using Nat.strongRecOn with
  | _ n ih =>
    by_cases k:∃ m,m<n∧p m
    · obtain ⟨m,h1,h2⟩:=k;exact ih m h1 h2
    · exact ⟨n,hn,fun m hm=>Nat.le_of_not_lt fun h=>k ⟨m,h,hm⟩⟩
open Classical in
noncomputable def least (p:Nat→Prop):Nat:=if h:∃ n,p n then Classical.choose (exists_min p h) else 0
theorem least_spec {p:Nat→Prop} (h:∃ n,p n):p (least p)∧∀ m,p m→least p≤m:=by
  unfold least;rw [dif_pos h];exact Classical.choose_spec (exists_min p h)
section
variable {B:Beg} {P:Program} {C:Call} {tab:List (Nat×List Nat)}
def LoopOk (B:Beg) (P:Program) (tab:List (Nat×List Nat)) (lp:List Nat→DCode→TM→GH→Option Out):Prop :=
  ∀ keep b c tm G x tm' G',okCode P B.nr tab b c=true→lp keep b tm G=some (x,tm',G')→CodeOk B P (.loop c) tm G x tm' G'
theorem code_sound (hmix:P.follows .mixedOrders=true) (hC:SoundC P B.base C) (hP:PresC C) (hrefs:B.refs=refsOf tab) {lp:List Nat→DCode→TM→GH→Option Out} (hl:PresL lp) (hlp:LoopOk B P tab lp) :
    ∀ (d:DCode) (c:Code) (tm:TM) (G:GH) (x:DX) (tm':TM) (G':GH),okCode P B.nr tab d c=true→exD C lp d tm G=some (x,tm',G')→CodeOk B P c tm G x tm' G':=by
  intro d
  induction d with
  | skip =>
    intro c tm G x tm' G' hok h a w Q A fresh hQ
    simp [exD] at h;obtain ⟨rfl,rfl,rfl⟩:=h
    cases c <;> simp only [okCode,Bool.false_eq_true] at hok
    exact wp_skip (hQ a w A)
  | region ops =>
    intro c tm G x tm' G' hok h
    simp only [exD] at h
    obtain ⟨p,h1,h2⟩:=Option.map_eq_some_iff.1 h
    cases h2
    cases c <;> simp only [okCode,Bool.false_eq_true] at hok
    exact region_ok hmix hC hP hrefs hok h1
  | seq d e ihd ihe =>
    intro c tm G x tm' G' hok h a w Q A fresh hQ
    simp only [exD] at h
    obtain ⟨⟨y,tm1,G1⟩,h1,h2⟩:=Option.bind_eq_some_iff.1 h
    cases c <;> simp only [okCode,Bool.false_eq_true,Bool.and_eq_true] at hok
    rename_i c1 c2
    have p1:=exD_pres hP hl _ _ _ _ _ _ h1 A.wf
    cases y with
    | normal =>
      have p2:=exD_pres hP hl _ _ _ _ _ _ h2 p1.1
      refine wp_seq (ihd _ _ _ _ _ _ hok.1 h1 a w _ A (fun id k1 k2=>fresh id k1 (Nat.lt_of_lt_of_le k2 p2.2)) fun a1 w1 A1=>?_)
      exact ihe _ _ _ _ _ _ hok.2 h2 a1 w1 Q A1 fresh hQ
    | exit id =>
      simp at h2;obtain ⟨rfl,rfl,rfl⟩:=h2
      exact wp_seq (ihd _ _ _ _ _ _ hok.1 h1 a w _ A fresh fun a1 w1 A1=>hQ a1 w1 A1)
    | ret =>
      simp at h2;obtain ⟨rfl,rfl,rfl⟩:=h2
      exact wp_seq (ihd _ _ _ _ _ _ hok.1 h1 a w _ A fresh fun a1 w1 A1=>hQ a1 w1 A1)
  | cond s t e iht ihe =>
    intro c tm G x tm' G' hok h a w Q A fresh hQ
    simp only [exD] at h
    obtain ⟨b,hb,h⟩:=Option.bind_eq_some_iff.1 h
    cases c <;> simp only [okCode,Bool.false_eq_true,Bool.and_eq_true] at hok
    rename_i c1 c2 c3
    obtain ⟨φ,β,S,_⟩:=A.ex
    have ev:=src_bool (a:=a) hok.1.1 hb fun n _=>S.rd (l:=tm) (n:=n) rfl
    refine wp_cond ev ?_
    cases b with
    | true=>exact iht _ _ _ _ _ _ hok.1.2 h a w Q A fresh hQ
    | false=>exact ihe _ _ _ _ _ _ hok.2 h a w Q A fresh hQ
  | block id b ih =>
    intro c tm G x tm' G' hok h a w Q A fresh hQ
    simp only [exD] at h
    obtain ⟨⟨y,tm1,G1⟩,h1,h2⟩:=Option.map_eq_some_iff.1 h
    cases c <;> simp only [okCode,Bool.false_eq_true,Bool.and_eq_true,Nat.beq_eq] at hok
    obtain ⟨rfl,hok⟩:=hok
    refine wp_block ?_
    cases y with
    | normal=>cases h2;exact ih _ _ _ _ _ _ hok h1 a w _ A fresh fun a1 w1 A1=>hQ a1 w1 A1
    | ret=>cases h2;exact ih _ _ _ _ _ _ hok h1 a w _ A fresh fun a1 w1 A1=>hQ a1 w1 A1
    | exit id' =>
      simp only [unblock] at h2
      split at h2
      · rename_i e;rw [Nat.beq_eq] at e;subst e
        cases h2
        exact ih _ _ _ _ _ _ hok h1 a w _ A fresh fun a1 w1 A1=>by simp only [DX.ex,Exit.inBlock,if_true];exact hQ a1 w1 A1
      · rename_i e
        cases h2
        refine ih _ _ _ _ _ _ hok h1 a w _ A fresh fun a1 w1 A1=>?_
        have:id'≠id:=fun k=>beq_ne.1 e k.symm
        simp only [DX.ex,Exit.inBlock,this,if_false];exact hQ a1 w1 A1
  | loop keep b _ =>
    intro c tm G x tm' G' hok h a w Q A fresh hQ
    simp only [exD] at h
    cases c <;> simp only [okCode,Bool.false_eq_true] at hok
    exact hlp _ _ _ _ _ _ _ _ hok h a w Q (A.restr keep) fresh hQ
  | cut keep b ih =>
    intro c tm G x tm' G' hok h a w Q A fresh hQ
    simp only [exD] at h
    simp only [okCode] at hok
    exact ih _ _ _ _ _ _ hok h a w Q (A.restr keep) fresh hQ
  | exit id =>
    intro c tm G x tm' G' hok h a w Q A fresh hQ
    simp [exD] at h;obtain ⟨rfl,rfl,rfl⟩:=h
    cases c <;> simp only [okCode,Bool.false_eq_true,Nat.beq_eq] at hok
    subst hok
    exact wp_exit (hQ a w A)
  | ret =>
    intro c tm G x tm' G' hok h a w Q A fresh hQ
    simp [exD] at h;obtain ⟨rfl,rfl,rfl⟩:=h
    cases c <;> simp only [okCode,Bool.false_eq_true] at hok
    exact wp_ret (hQ a w A)
theorem loop_sound (hmix:P.follows .mixedOrders=true) (hC:SoundC P B.base C) (hP:PresC C) (hrefs:B.refs=refsOf tab) (n:Nat):LoopOk B P tab (loopD C n):=by
  induction n using Nat.strongRecOn with
  | _ n IH =>
    intro keep b c tm G x tm' G' hok h a w Q A fresh hQ
    let J:Act→World→Nat→Prop:=fun a w m=>m≤n∧∃ tm G,loopD C m keep b tm G=some (x,tm',G')∧At B tm G a w
    refine wp_loop (fun a w=>∃ m,J a w m) (fun a w=>least (J a w)) ⟨n,Nat.le_refl _,tm,G,h,A⟩ fun a w hI=>?_
    obtain ⟨⟨hm,tm0,G0,h0,A0⟩,hmin⟩:=least_spec hI
    generalize least (J a w)=m at *
    cases m with
    | zero=>simp [loopD] at h0
    | succ k =>
      simp only [loopD] at h0
      obtain ⟨⟨y,tm1,G1⟩,h1,h2⟩:=Option.bind_eq_some_iff.1 h0
      have p1:=exD_pres hP (loopD_pres hP k) _ _ _ _ _ _ h1 A0.wf
      have sound:=code_sound hmix hC hP hrefs (loopD_pres hP k) (IH k (by omega)) b c tm0 G0 y tm1 G1 hok h1 a w
      cases y with
      | normal =>
        have p2:=loopD_pres hP k _ _ _ _ _ _ _ h2 p1.1
        refine sound _ A0 (fun id k1 k2=>fresh id k1 (Nat.lt_of_lt_of_le k2 p2.2)) fun a1 w1 A1=>?_
        have hJ:J a1 w1 k:=⟨by omega,_,_,h2,A1.restr keep⟩
        exact ⟨⟨k,hJ⟩,Nat.lt_succ_of_le ((least_spec ⟨k,hJ⟩).2 k hJ)⟩
      | exit id =>
        simp at h2;obtain ⟨rfl,rfl,rfl⟩:=h2
        exact sound _ A0 fresh fun a1 w1 A1=>hQ a1 w1 A1
      | ret =>
        simp at h2;obtain ⟨rfl,rfl,rfl⟩:=h2
        exact sound _ A0 fresh fun a1 w1 A1=>hQ a1 w1 A1
end
end Go.Proofs.D
/- Functions,on both sides. -/
set_option linter.unusedVariables false
namespace Go.Proofs.D
open Go
def okRV (P:Program) (nr:Nat):ResultVar→RV→Bool
  | .tmp t,.t n=>okSrc nr (.tmp t) (.t n)
  | .cell t ty,.box n agg=>Nat.beq t n&&(match agg with
    | some k=>tAgg P ty true&&tSize P ty k
    | none=>tAgg P ty false)
  | .cell t ty,.pt n agg=>Nat.beq t n&&Nat.ble (n+1) nr&&(match agg with
    | some k=>tAgg P ty true&&tSize P ty k
    | none=>tAgg P ty false)
  | _,_=>false
def okRVs (P:Program) (nr:Nat):List ResultVar→List RV→Bool
  | [],[]=>true
  | r::rs,d::ds=>okRV P nr r d&&okRVs P nr rs ds
  | _,_=>false
section
variable {B:Beg} {P:Program} {C:Call} {tab:List (Nat×List Nat)} {φ:Phi} {β:Nat→Nat} {G:GH} {tm:TM} {a:Act} {w:World}
def resOne (tmps:Array Value):ResultVar→Sem Value
  | .tmp t=>pure (tmps.getD t undef)
  | .cell a t=>do loadVar t (← asAddr (tmps.getD a undef))
theorem res_one {r:ResultVar} {d:RV} {x:V1} (S:StR B φ β G.get (fun t=>tm[t]?) a w) (hok:okRV P B.nr r d=true) (hx:rvD tm G d=some x):∃ v,(resOne a.tmps r).run P w = .ok v w∧V1Rel φ x v:=by
  cases r with
  | tmp t =>
    cases d with
    | box n agg=>simp [okRV] at hok
    | pt n agg=>simp [okRV] at hok
    | t n =>
      simp only [okRV] at hok
      have r:=src_val (a:=a) (φ:=φ) (β:=β) (tm:=tm) hok hx fun m _=>S.rd (l:=tm) (n:=m) rfl
      exact ⟨a.eval (.tmp t),by simp [resOne,Act.eval,Array.getD_eq_getD_getElem?],r⟩
  | cell t ty =>
    cases d with
    | t n=>simp [okRV] at hok
    | pt n agg =>
      simp only [okRV,Bool.and_eq_true,Nat.beq_eq] at hok
      obtain ⟨⟨rfl,_⟩,hok⟩:=hok
      simp only [rvD] at hx
      split at hx
      · rename_i id off hb
        obtain ⟨v,hv,r⟩:=S.sl _ _ hb (by simp) (by simp)
        simp only [TRel] at r
        obtain ⟨h0,L,hL,e⟩:=r
        cases agg with
        | none =>
          simp only at hx hok
          obtain ⟨c,hc,hx⟩:=Option.bind_eq_some_iff.1 hx
          simp at hx;subst hx
          obtain ⟨u,hu,ru⟩:=ld_cell S.H.look hc hL
          refine ⟨u,?_,ru⟩
          simp [resOne,Array.getD_eq_getD_getElem?,hv,e,loadVar,tAgg_run hok w,hu,asAddr]
        | some k =>
          simp only [Bool.and_eq_true] at hx hok
          obtain ⟨cs,hcs,hx⟩:=Option.bind_eq_some_iff.1 hx
          simp at hx;subst hx
          obtain ⟨hl,vs,rvs,hcell⟩:=lds_cells S.H hcs hL
          have hld:=run_loadCells_list (P:=P) w ⟨L.blk,L.sh+off,none⟩ vs hcell
          have hks:k=vs.length:=by rw [← hl,rvs.len]
          refine ⟨.agg vs.toArray,?_,⟨vs.toArray,rfl,by simpa using rvs⟩⟩
          simp [resOne,Array.getD_eq_getD_getElem?,hv,e,loadVar,tAgg_run hok.1 w,tSize_run hok.2 w,asAddr,hks] at hld ⊢
          simp [hld]
      · cases hx
    | box n agg =>
      simp only [okRV,Bool.and_eq_true,Nat.beq_eq] at hok
      obtain ⟨rfl,hok⟩:=hok
      simp only [rvD] at hx
      split at hx
      · rename_i b hb
        split at hx
        · rename_i cs hcs
          obtain ⟨v,hv,r⟩:=S.sl _ _ hb (by simp) (by simp)
          simp only [TRel] at r
          obtain ⟨_,⟨c,el,hh,rc⟩,_,_⟩:=S.bx _ _ hcs
          have hlen:cs.length=c.size:=by have:=rc.len;simpa using this
          cases agg with
          | none =>
            simp only at hx hok
            split at hx
            · rename_i c0
              simp at hx;subst hx
              obtain ⟨u,hu,ru⟩:=rc.get 0 c0 rfl
              refine ⟨u,?_,ru⟩
              have hcell:w.cell? ⟨β b,0,none⟩ = some u:=by simp [World.cell?,hh];simpa using hu
              simp [resOne,Array.getD_eq_getD_getElem?,hv,r,loadVar,tAgg_run hok w,hcell,asAddr]
            · cases hx
          | some k =>
            simp only [Bool.and_eq_true] at hx hok
            obtain ⟨hk,hx⟩:=chk_some hx
            simp at hx;subst hx
            rw [Nat.beq_eq] at hk
            have hld:=run_loadCells_list (P:=P) w ⟨β b,0,none⟩ c.toList (fun j v hv=>by
              rw [addr_add];simp [World.cell?,hh];simpa using hv)
            have hks:k=c.toList.length:=by simp;omega
            refine ⟨.agg c,?_,⟨c,rfl,rc⟩⟩
            simp [resOne,Array.getD_eq_getD_getElem?,hv,r,loadVar,tAgg_run hok.1 w,tSize_run hok.2 w,asAddr,hks] at hld ⊢
            simp [hld]
        · cases hx
      · cases hx
theorem res_all (S:StR B φ β G.get (fun t=>tm[t]?) a w):∀ (rs:List ResultVar) (ds:List RV) (xs:List V1),okRVs P B.nr rs ds=true→rvsD tm G ds=some xs→∃ vs,(rs.mapM (resOne a.tmps)).run P w = .ok vs w∧R2 (V1Rel φ) xs vs∧xs.length=rs.length
  | [],[],xs,_,hx=>by simp [rvsD] at hx;subst hx;exact ⟨[],by simp,R2.nil,rfl⟩
  | [],d::ds,xs,hok,_=>by simp [okRVs] at hok
  | r::rs,[],xs,hok,_=>by simp [okRVs] at hok
  | r::rs,d::ds,xs,hok,hx=>by
    simp only [okRVs,Bool.and_eq_true] at hok
    simp only [rvsD] at hx
    obtain ⟨x,hx1,hx⟩:=Option.bind_eq_some_iff.1 hx
    obtain ⟨ys,hx2,hx⟩:=Option.bind_eq_some_iff.1 hx
    simp at hx;subst hx
    obtain ⟨v,hv,rv⟩:=res_one (P:=P) S hok.1 hx1
    obtain ⟨vs,hvs,rvs,hl⟩:=res_all S rs ds ys hok.2 hx2
    exact ⟨v::vs,by simp [List.mapM_cons,hv,hvs],R2.cons rv rvs,by simp [hl]⟩
theorem res_run {fn:Func} {ds:List RV} {xs:List V1} (S:StR B φ β G.get (fun t=>tm[t]?) a w) (hok:okRVs P B.nr fn.results.toList ds=true) (hx:rvsD tm G ds=some xs):∃ v,(results fn a.tmps).run P w = .ok v w∧RRel φ xs v∧xs.length=fn.results.size:=by
  obtain ⟨vs,hvs,r,hl⟩:=res_all S _ _ _ hok hx
  have hm:(fn.results.mapM (resOne a.tmps)).run P w = .ok vs.toArray w:=by
    rw [Array.mapM_eq_mapM_toList];simp [hvs]
  have he:results fn a.tmps=(do let vs ← fn.results.mapM (resOne a.tmps);pure (if h:vs.size=1 then vs[0] else .tuple vs)):=rfl
  refine ⟨_,by rw [he,Sem.run_bind,hm];rfl,?_,by simpa using hl⟩
  cases xs with
  | nil=>rw [r.nil_inv];exact ⟨#[],rfl,R2.nil⟩
  | cons x xs =>
    obtain ⟨v,vs',rfl,r1,r2⟩:=r.uncons
    cases xs with
    | nil=>rw [r2.nil_inv];exact r1
    | cons y ys =>
      obtain ⟨v2,vs2,rfl,r3,r4⟩:=r2.uncons
      exact ⟨_,rfl,r⟩
end
end Go.Proofs.D
/- Calls,on both sides. -/
set_option linter.unusedVariables false
namespace Go.Proofs.D
open Go
def boxesOf:List DO→List (Nat×List Nat)
  | []=>[]
  | o::os=>match o.op,o.dst with
    | .boxz b ders _,some d=>(b,d::ders)::boxesOf os
    | .boxv b ders _ _,some d=>(b,d::ders)::boxesOf os
    | _,_=>boxesOf os
def tabOf:DCode→List (Nat×List Nat)
  | .region ops=>boxesOf ops
  | .seq a b=>tabOf a++tabOf b
  | .cond _ a b=>tabOf a++tabOf b
  | .block _ b=>tabOf b
  | .loop _ b=>tabOf b
  | .cut _ b=>tabOf b
  | _=>[]
def okF (P:Program) (f p:Nat) (d:DFn):Bool:=match P.funcs[f]? with
  | some fn=>match fn.body with
    | some c=>Nat.ble p fn.ntmps&&!(fn.name == "runtime.NumGoroutine")&&okCode P fn.ntmps (tabOf d.body) d.body c&&okRVs P fn.ntmps fn.results.toList d.res
    | none=>false
  | none=>false
section
variable {P:Program} {T:Nat→Option (Nat×DFn)} {base:Nat}
theorem runB_some {C:Call} {n:Nat} {d:DFn} {args:List V1} {G G':GH} {vs:List V1} (h:runB C n d args G=some (vs,G')) :
    ∃ x tm',exD C (loopD C n) d.body (initTm d.ntmps args) G=some (x,tm',G')∧rvsD tm' G' d.res=some vs∧(x = .normal∨x = .ret):=by
  unfold runB at h
  obtain ⟨⟨x,tm',G1⟩,h1,h2⟩:=Option.bind_eq_some_iff.1 h
  cases x with
  | exit id=>cases h2
  | normal =>
    simp only [retK] at h2
    obtain ⟨vs',h3,h4⟩:=Option.bind_eq_some_iff.1 h2
    simp at h4;obtain ⟨rfl,rfl⟩:=h4
    exact ⟨_,_,h1,h3,.inl rfl⟩
  | ret =>
    simp only [retK] at h2
    obtain ⟨vs',h3,h4⟩:=Option.bind_eq_some_iff.1 h2
    simp at h4;obtain ⟨rfl,rfl⟩:=h4
    exact ⟨_,_,h1,h3,.inr rfl⟩
theorem runD_some {C:Call} {n:Nat} {d:DFn} {args:List V1} {G:GH} {r:Res} (h:runD C n d args G=some r) :
    (d.prim=none∧runB C n d args G=some r)∨∃ p,d.prim=some p∧p.run args G=some r:=by
  unfold runD at h
  split at h
  · exact .inl ⟨by assumption,h⟩
  · exact .inr ⟨_,by assumption,h⟩
theorem callD_some {n f:Nat} {args:List V1} {G G':GH} {vs:List V1} (h:callD T (n+1) f args G=some (vs,G')) :
    ∃ p d,T f=some (p,d)∧args.length=p∧runD (callD T n) n d args G=some (vs,G'):=by
  simp only [callD] at h
  split at h
  · rename_i p d e
    split at h
    · rename_i hp
      exact ⟨p,d,e,Nat.eq_of_beq_eq_true hp,h⟩
    · cases h
  · cases h
theorem ins_some {es id off len:Nat} {i:Int} {id' off' len':Nat} {G G':GH} {vs:List V1} (h:insD es id off len i id' off' len' G=some (vs,G')) :
    0≤i∧i≤len∧0<len'∧id≠id'∧len+len'≤most∧(G.own id').isSome=true∧∃ new,G.lds id' off' (len' * es)=some new ∧
      ((id=0∧len=0∧vs=[.c (.sl es G.next 0 len')]∧G' = G.alloc (.row new false)) ∨
       (id≠0∧∃ cs,G.own id=some cs∧off+len*es=cs.length∧vs=[.c (.sl es G.next 0 (len+len'))]∧G' = (G.set id none).alloc (.row ((cs.drop off).take (i.toNat*es)++new++(cs.drop off).drop (i.toNat*es)) false))):=by
  unfold insD at h
  obtain ⟨hg,h⟩:=guardK_some h
  simp only [Bool.and_eq_true,decide_eq_true_eq] at hg
  obtain ⟨⟨⟨⟨⟨g1,g2⟩,g3⟩,g4⟩,g5⟩,g6⟩:=hg
  obtain ⟨new,hn,h⟩:=Option.bind_eq_some_iff.1 h
  refine ⟨g1,g2,g3,g4,g5,g6,new,hn,?_⟩
  split at h
  · rename_i h0
    obtain ⟨k1,h⟩:=guardK_some h
    simp at h k1
    exact .inl ⟨h0,k1,h.1.symm,h.2.symm⟩
  · rename_i h0
    obtain ⟨cs,hcs,h⟩:=Option.bind_eq_some_iff.1 h
    obtain ⟨k1,h⟩:=guardK_some h
    simp only [decide_eq_true_eq,Option.some.injEq,Prod.mk.injEq] at h k1
    exact .inr ⟨h0,cs,hcs,k1,h.1.symm,h.2.symm⟩
theorem del_some {es:Nat} {zero:List Cell} {id off len:Nat} {i j:Int} {G G':GH} {vs:List V1} (h:delD es zero id off len i j G=some (vs,G')) :
    0≤i∧i<j∧j≤len∧∃ cs,G.own id=some cs∧off+len*es≤cs.length∧vs=[.c (.sl es id off (len-(j.toNat-i.toNat)))] ∧
      G' = G.set id (some (.row (splice cs (off+i.toNat*es) (((cs.drop (off+j.toNat*es)).take ((len-j.toNat)*es))++reps (j.toNat-i.toNat) zero)) false)):=by
  unfold delD at h
  obtain ⟨hg,h⟩:=guardK_some h
  simp only [decide_eq_true_eq] at hg
  obtain ⟨cs,hcs,h⟩:=Option.bind_eq_some_iff.1 h
  obtain ⟨k1,h⟩:=guardK_some h
  simp only [decide_eq_true_eq,Option.some.injEq,Prod.mk.injEq] at h k1
  exact ⟨hg.1,hg.2.1,hg.2.2,cs,hcs,k1,h.1.symm,h.2.symm⟩
theorem prim_some {q:Prim} {args:List V1} {G G':GH} {vs:List V1} (h:q.run args G=some (vs,G')) :
    (∃ es by_ id off len i id' off' len',q = .ins es by_∧args=[.c (.sl es id off len),.c (.int .i64 i),.c (.sl es id' off' len')]∧insD es id off len i id' off' len' G=some (vs,G')) ∨
    (∃ es zero id off len i j,q = .del es zero∧args=[.c (.sl es id off len),.c (.int .i64 i),.c (.int .i64 j)]∧delD es zero id off len i j G=some (vs,G')):=by
  unfold Prim.run at h
  split at h
  · obtain ⟨hg,h⟩:=guardK_some h
    simp only [Bool.and_eq_true,Nat.beq_eq] at hg
    obtain ⟨rfl,rfl⟩:=hg
    exact .inl ⟨_,_,_,_,_,_,_,_,_,rfl,rfl,h⟩
  · obtain ⟨hg,h⟩:=guardK_some h
    simp only [Nat.beq_eq] at hg
    subst hg
    exact .inr ⟨_,_,_,_,_,_,_,rfl,rfl,h⟩
  · cases h
theorem prim_pres {q:Prim} {args:List V1} {G G':GH} {vs:List V1} (h:q.run args G=some (vs,G')):Pres G G':=by
  rcases prim_some h with ⟨_,_,_,_,_,_,_,_,_,_,_,h⟩ | ⟨_,_,_,_,_,_,_,_,_,h⟩
  · obtain ⟨_,_,_,_,_,_,new,_,⟨_,_,_,rfl⟩ | ⟨_,cs,hcs,_,_,rfl⟩⟩:=ins_some h
    · exact pres_alloc _
    · exact (pres_set (own_get hcs)).trans (pres_alloc _)
  · obtain ⟨_,_,_,cs,hcs,_,_,rfl⟩:=del_some h
    exact pres_set (own_get hcs)
theorem callD_pres:∀ n,PresC (callD T n)
  | 0=>fun f args G vs G' h=>by simp [callD] at h
  | n+1=>fun f args G vs G' h=>by
    obtain ⟨p,d,_,_,h⟩:=callD_some h
    rcases runD_some h with ⟨_,h⟩ | ⟨q,_,h⟩
    case inr=>exact prim_pres h
    obtain ⟨x,tm',h1,_,_⟩:=runB_some h
    exact exD_pres (callD_pres n) (loopD_pres (callD_pres n) n) _ _ _ _ _ _ h1
theorem rvs_len {nr:Nat} {tm:TM} {G:GH}:∀ (rs:List ResultVar) (ds:List RV) (xs:List V1),okRVs P nr rs ds=true→rvsD tm G ds=some xs→xs.length=rs.length
  | [],[],xs,_,hx=>by simp [rvsD] at hx;subst hx;rfl
  | [],d::ds,xs,hok,_=>by simp [okRVs] at hok
  | r::rs,[],xs,hok,_=>by simp [okRVs] at hok
  | r::rs,d::ds,xs,hok,hx=>by
    simp only [okRVs,Bool.and_eq_true] at hok
    simp only [rvsD] at hx
    obtain ⟨x,hx1,hx⟩:=Option.bind_eq_some_iff.1 hx
    obtain ⟨ys,hx2,hx⟩:=Option.bind_eq_some_iff.1 hx
    simp at hx;subst hx
    simp [rvs_len rs ds ys hok.2 hx2]
def PrimOk (P:Program) (f:Nat) (q:Prim):Prop:=∀ base,SoundC P base fun g args G=>if g=f then q.run args G else none
def OkF (P:Program) (f p:Nat) (d:DFn):Prop:=(d.prim=none∧okF P f p d=true)∨∃ q,d.prim=some q∧PrimOk P f q
theorem callD_sound (hmix:P.follows .mixedOrders=true) (hT:∀ f p d,T f=some (p,d)→OkF P f p d):∀ n,SoundC P base (callD T n)
  | 0=>fun f args G vs G' h=>by simp [callD] at h
  | n+1=>fun f args G vs G' h=>by
    obtain ⟨p,d,e,hp,h⟩:=callD_some h
    have hok:=hT f p d e
    rcases runD_some h with ⟨hpr,h⟩ | ⟨q,hpr,h⟩
    case inr =>
      rcases hok with ⟨hpr',_⟩ | ⟨q',hpr',hq⟩
      · rw [hpr] at hpr';cases hpr'
      · rw [hpr] at hpr';cases hpr'
        exact hq base f args G vs G' ((if_pos rfl).trans h)
    replace hok:okF P f p d=true:=by
      rcases hok with ⟨_,hok⟩ | ⟨q',hpr',_⟩
      · exact hok
      · rw [hpr] at hpr';cases hpr'
    obtain ⟨x,tm',h1,h2,hx⟩:=runB_some h
    unfold okF at hok
    split at hok
    · rename_i fn hfn
      split at hok
      · rename_i c hc
        simp only [Bool.and_eq_true,Nat.ble_eq] at hok
        obtain ⟨⟨⟨k1,k0⟩,k2⟩,k3⟩:=hok
        refine ⟨⟨fn,hfn,by simp [hc],by simpa using k0,?_⟩,fun φ w argv H wf hb fresh ra=>?_⟩
        · have:=rvs_len _ _ _ k3 h2;simpa using this
        · have hlen:args.length=argv.size:=by have:=ra.len;simpa using this
          let B:Beg:=⟨base,fn.ntmps,refsOf (tabOf d.body),w,φ,G⟩
          have hP:=callD_pres (T:=T) n
          have hC:=callD_sound hmix hT n
          have sound:=code_sound (B:=B) (P:=P) (tab:=tabOf d.body) hmix hC hP rfl (loopD_pres hP n) (loop_sound hmix hC hP rfl n) d.body c _ _ _ _ _ k2 h1
          have hget:∀ (t:Nat) (y:TV),(initTm d.ntmps args)[t]? = some y→y≠TV.und→∃ z,args[t]? = some z∧y=TV.v z:=fun t y hy hu=>by
            unfold initTm at hy
            rw [List.getElem?_append] at hy
            split at hy
            · rw [List.getElem?_map] at hy
              obtain ⟨z,hz,rfl⟩:=Option.map_eq_some_iff.1 hy
              exact ⟨z,hz,rfl⟩
            · rw [List.getElem?_replicate] at hy
              split at hy
              · cases hy;exact absurd rfl hu
              · cases hy
          refine calls_of_wp hfn hc (sound _ w _ ⟨⟨φ,fun _=>0,⟨H,hb,fun t y hy hu _=>?_,fun t cs hy=>?_,fun t m cs ds hy=>?_,fun t b off hy=>?_,rfl,by simp [B];omega,.refl _,Nat.le_refl _,fun _ _ _=>rfl,fun _ h=>.inl h,rfl,rfl,rfl⟩,fun _ h=>.inl h⟩,wf,Nat.le_refl _⟩ fresh fun a' w' A=>?_)
          · obtain ⟨z,hz,rfl⟩:=hget t y hy hu
            obtain ⟨v,hv,r⟩:=ra.get t z hz
            refine ⟨v,?_,r⟩
            have:t<argv.size:=by have:=(List.getElem?_eq_some_iff.1 hz).1;omega
            rw [Array.getElem?_append_left this];simpa using hv
          · obtain ⟨z,_,e⟩:=hget t _ hy (by simp);cases e
          · obtain ⟨z,_,e⟩:=hget t _ hy (by simp);cases e
          · obtain ⟨z,_,e⟩:=hget t _ hy (by simp);cases e
          · obtain ⟨φ',β',S,dom⟩:=A.ex
            obtain ⟨v,hv,rv,_⟩:=res_run (P:=P) S k3 h2
            have good:Good base φ G w φ' G' w':=⟨S.le,S.H,dom,S.nb,S.size,S.keep,S.os,S.tape,S.output,A.le,A.wf⟩
            rcases hx with rfl | rfl
            · exact ⟨S.df,v,hv,φ',v,rfl,rv,good⟩
            · exact ⟨S.df,v,hv,φ',v,rfl,rv,good⟩
      · cases hok
    · cases hok
end
end Go.Proofs.D
/- Rows that are not held stay as they are. -/
set_option linter.unusedVariables false
namespace Go.Proofs.D
open Go
def Frz (G G':GH):Prop:=Pres G G'∧(G.wf→∀ id cs,G.get id=some (.row cs true)→G'.get id=some (.row cs true))
def FrzC (C:Call):Prop:=∀ f args G vs G',C f args G=some (vs,G')→Frz G G'
theorem Frz.refl (G:GH):Frz G G:=⟨.refl _,fun _ _ _ h=>h⟩
theorem Frz.trans {G G' G'':GH} (h:Frz G G') (h':Frz G' G''):Frz G G'':=⟨h.1.trans h'.1,fun w id cs k=>h'.2 (h.1 w).1 _ _ (h.2 w _ _ k)⟩
section
variable {C:Call} {tm tm':TM} {G G':GH}
theorem frz_set {id:Nat} {o:Obj} {o':Option Obj} (h:G.get id=some o) (ho:∀ cs,o≠.row cs true:=by simp):Frz G (G.set id o') :=
  ⟨pres_set h,fun w j cs k=>by
    rw [GH.get_set]
    split
    · rename_i e;subst e;rw [h] at k;cases k;exact absurd rfl (ho _)
    · exact k⟩
theorem frz_alloc (o:Obj):Frz G (G.alloc o):=⟨pres_alloc o,fun w j cs k=>by rw [GH.get_alloc,if_neg (fun e=>by rw [w.1 j (by omega)] at k;cases k)];exact k⟩
theorem frz_sts {id off:Nat} {new:List Cell} (h:G.sts id off new=some G'):Frz G G':=by
  unfold GH.sts at h
  obtain ⟨cs,hcs,h⟩:=Option.bind_eq_some_iff.1 h
  split at h
  · cases h;exact frz_set (own_get hcs)
  · cases h
theorem frz_app {id off len es m:Nat} {new:List Cell} {i o:Nat} (h:G.app id off len es m new=some (i,o,G')):Frz G G':=by
  unfold GH.app at h
  split at h
  · cases h;exact .refl _
  · split at h
    · cases h;exact frz_alloc _
    · obtain ⟨cs,hcs,h⟩:=Option.bind_eq_some_iff.1 h
      split at h
      · cases h;exact (frz_set (own_get hcs)).trans (frz_alloc _)
      · split at h
        · cases h;exact frz_set (own_get hcs)
        · cases h
theorem opD_frz (hC:FrzC C) {op:DOp} {u:TV} (h:opD C tm G op=some (u,G')):Frz G G':=by
  by_cases h1:op.kl = .al
  · obtain ⟨o,rfl⟩:=opD_al h1 h;exact frz_alloc o
  · by_cases h2:op.kl = .act
    · cases op <;> simp [DOp.kl] at h2 <;> simp only [opD,opK] at h
      case sbytes x =>
        obtain ⟨l,_,h⟩:=Option.bind_eq_some_iff.1 h
        simp only [Option.some.injEq,Prod.mk.injEq] at h;obtain ⟨_,rfl⟩:=h;exact frz_alloc _
      case stG a x n =>
        split at h
        · obtain ⟨v,_,h⟩:=Option.bind_eq_some_iff.1 h
          obtain ⟨_,h⟩:=chk_some h
          obtain ⟨G2,hG,h⟩:=Option.bind_eq_some_iff.1 h
          simp at h;obtain ⟨_,rfl⟩:=h;exact frz_sts hG
        · cases h
      case app x y es bytes =>
        simp only [sK] at h
        obtain ⟨p,_,h⟩:=Option.bind_eq_some_iff.1 h
        obtain ⟨q,_,h⟩:=Option.bind_eq_some_iff.1 h
        obtain ⟨new,_,h⟩:=Option.bind_eq_some_iff.1 h
        obtain ⟨_,h⟩:=guardK_some h
        obtain ⟨⟨i,o,G2⟩,hG,h⟩:=Option.bind_eq_some_iff.1 h
        simp at h;obtain ⟨_,rfl⟩:=h;exact frz_app hG
      case copy x y es =>
        simp only [sK] at h
        obtain ⟨p,_,h⟩:=Option.bind_eq_some_iff.1 h
        obtain ⟨q,_,h⟩:=Option.bind_eq_some_iff.1 h
        split at h
        · simp at h;obtain ⟨_,rfl⟩:=h;exact .refl _
        · obtain ⟨new,_,h⟩:=Option.bind_eq_some_iff.1 h
          obtain ⟨G2,hG,h⟩:=Option.bind_eq_some_iff.1 h
          simp at h;obtain ⟨_,rfl⟩:=h;exact frz_sts hG
      case clear x zero =>
        simp only [sK] at h
        obtain ⟨p,_,h⟩:=Option.bind_eq_some_iff.1 h
        split at h
        · simp at h;obtain ⟨_,rfl⟩:=h;exact .refl _
        · obtain ⟨G2,hG,h⟩:=Option.bind_eq_some_iff.1 h
          simp at h;obtain ⟨_,rfl⟩:=h;exact frz_sts hG
      case mupd ks m key x =>
        obtain ⟨m,_,h⟩:=Option.bind_eq_some_iff.1 h
        obtain ⟨key,_,h⟩:=Option.bind_eq_some_iff.1 h
        obtain ⟨x,_,h⟩:=Option.bind_eq_some_iff.1 h
        obtain ⟨_,h⟩:=chk_some h
        obtain ⟨es,he,h⟩:=Option.bind_eq_some_iff.1 h
        simp at h;obtain ⟨_,rfl⟩:=h
        obtain ⟨_,e⟩:=ents_get he
        exact frz_set e
      case del ks m key =>
        obtain ⟨m,_,h⟩:=Option.bind_eq_some_iff.1 h
        obtain ⟨key,_,h⟩:=Option.bind_eq_some_iff.1 h
        obtain ⟨_,h⟩:=chk_some h
        obtain ⟨es,he,h⟩:=Option.bind_eq_some_iff.1 h
        simp at h;obtain ⟨_,rfl⟩:=h
        obtain ⟨_,e⟩:=ents_get he
        exact frz_set e
      case call f args rs =>
        obtain ⟨vs,_,h⟩:=Option.bind_eq_some_iff.1 h
        obtain ⟨⟨out,G2⟩,hc,h⟩:=Option.bind_eq_some_iff.1 h
        rw [results_heap h];exact hC _ _ _ _ _ hc
      case callT x args rs =>
        obtain ⟨f,_,h⟩:=Option.bind_eq_some_iff.1 h
        obtain ⟨vs,_,h⟩:=Option.bind_eq_some_iff.1 h
        obtain ⟨⟨out,G2⟩,hc,h⟩:=Option.bind_eq_some_iff.1 h
        obtain ⟨_,h⟩:=chk_some h
        rw [results_heap h];exact hC _ _ _ _ _ hc
    · rw [opD_same h1 h2 h];exact .refl _
theorem stepD_frz (hC:FrzC C) {o:DO} (h:stepD C o tm G=some (tm',G')):Frz G G':=by
  rcases stepD_cases h with ⟨_,_,_,rfl⟩ | ⟨_,h⟩
  · exact .refl _
  · unfold goD at h
    split at h
    · simp at h;obtain ⟨x,hx,rfl,rfl⟩:=h;exact .refl _
    · obtain ⟨⟨x,G2⟩,hx,h⟩:=Option.map_eq_some_iff.1 h;cases h;exact opD_frz hC hx
theorem opsD_frz (hC:FrzC C):∀ (os:List DO) (tm:TM) (G:GH) (tm':TM) (G':GH),opsD C os tm G=some (tm',G')→Frz G G'
  | [],tm,G,tm',G',h=>by simp [opsD] at h;rw [h.2];exact .refl _
  | o::os,tm,G,tm',G',h=>by
    simp only [opsD] at h
    obtain ⟨⟨tm1,G1⟩,h1,h2⟩:=Option.bind_eq_some_iff.1 h
    exact (stepD_frz hC h1).trans (opsD_frz hC os _ _ _ _ h2)
def FrzL (lp:List Nat→DCode→TM→GH→Option Out):Prop:=∀ keep b tm G x tm' G',lp keep b tm G=some (x,tm',G')→Frz G G'
theorem exD_frz (hC:FrzC C) {lp:List Nat→DCode→TM→GH→Option Out} (hl:FrzL lp):∀ (d:DCode) (tm:TM) (G:GH) (x:DX) (tm':TM) (G':GH),exD C lp d tm G=some (x,tm',G')→Frz G G':=by
  intro d
  induction d with
  | skip=>intro tm G x tm' G' h;simp [exD] at h;rw [h.2.2];exact .refl _
  | region ops=>intro tm G x tm' G' h;simp only [exD] at h;obtain ⟨p,h1,h2⟩:=Option.map_eq_some_iff.1 h;cases h2;exact opsD_frz hC _ _ _ _ _ h1
  | seq c d ihc ihd =>
    intro tm G x tm' G' h;simp only [exD] at h
    obtain ⟨⟨y,tm1,G1⟩,h1,h2⟩:=Option.bind_eq_some_iff.1 h
    have p1:=ihc _ _ _ _ _ h1
    cases y with
    | normal=>exact p1.trans (ihd _ _ _ _ _ h2)
    | exit id=>simp at h2;rw [← h2.2.2];exact p1
    | ret=>simp at h2;rw [← h2.2.2];exact p1
  | cond s t e iht ihe =>
    intro tm G x tm' G' h;simp only [exD] at h
    obtain ⟨b,_,h⟩:=Option.bind_eq_some_iff.1 h
    cases b with
    | true=>exact iht _ _ _ _ _ h
    | false=>exact ihe _ _ _ _ _ h
  | block id b ih =>
    intro tm G x tm' G' h;simp only [exD] at h
    obtain ⟨⟨y,tm1,G1⟩,h1,h2⟩:=Option.map_eq_some_iff.1 h
    have p1:=ih _ _ _ _ _ h1
    have:G' = G1:=by
      cases y with
      | exit id'=>simp only [unblock] at h2;split at h2 <;> cases h2 <;> rfl
      | normal=>cases h2;rfl
      | ret=>cases h2;rfl
    rw [this];exact p1
  | loop keep b _=>intro tm G x tm' G' h;exact hl _ _ _ _ _ _ _ h
  | cut keep b ih=>intro tm G x tm' G' h;exact ih _ _ _ _ _ h
  | exit id=>intro tm G x tm' G' h;simp [exD] at h;rw [h.2.2];exact .refl _
  | ret=>intro tm G x tm' G' h;simp [exD] at h;rw [h.2.2];exact .refl _
theorem loopD_frz (hC:FrzC C):∀ n,FrzL (loopD C n)
  | 0=>fun keep b tm G x tm' G' h=>by simp [loopD] at h
  | n+1=>fun keep b tm G x tm' G' h=>by
    simp only [loopD] at h
    obtain ⟨⟨y,tm1,G1⟩,h1,h2⟩:=Option.bind_eq_some_iff.1 h
    have p1:=exD_frz hC (loopD_frz hC n) _ _ _ _ _ _ h1
    cases y with
    | normal=>exact p1.trans (loopD_frz hC n _ _ _ _ _ _ _ h2)
    | exit id=>simp at h2;rw [← h2.2.2];exact p1
    | ret=>simp at h2;rw [← h2.2.2];exact p1
variable {T:Nat→Option (Nat×DFn)}
theorem prim_frz {q:Prim} {args:List V1} {G G':GH} {vs:List V1} (h:q.run args G=some (vs,G')):Frz G G':=by
  rcases prim_some h with ⟨_,_,_,_,_,_,_,_,_,_,_,h⟩ | ⟨_,_,_,_,_,_,_,_,_,h⟩
  · obtain ⟨_,_,_,_,_,_,new,_,⟨_,_,_,rfl⟩ | ⟨_,cs,hcs,_,_,rfl⟩⟩:=ins_some h
    · exact frz_alloc _
    · exact (frz_set (own_get hcs)).trans (frz_alloc _)
  · obtain ⟨_,_,_,cs,hcs,_,_,rfl⟩:=del_some h
    exact frz_set (own_get hcs)
theorem callD_frz:∀ n,FrzC (callD T n)
  | 0=>fun f args G vs G' h=>by simp [callD] at h
  | n+1=>fun f args G vs G' h=>by
    obtain ⟨p,d,_,_,h⟩:=callD_some h
    rcases runD_some h with ⟨_,h⟩ | ⟨q,_,h⟩
    case inr=>exact prim_frz h
    obtain ⟨x,tm',h1,_,_⟩:=runB_some h
    exact exD_frz (callD_frz n) (loopD_frz (callD_frz n) n) _ _ _ _ _ _ h1
theorem callW_frz {f:Nat} {args:List V1} {vs:List V1} (h:callW T f args G=some (vs,G')):Frz G G':=by
  obtain ⟨n,h⟩:=callW_some.1 h
  exact callD_frz n _ _ _ _ _ h
theorem callW_of {f n:Nat} {args:List V1} {r:Res} (h:callD T n f args G=some r):callW T f args G=some r:=callW_some.2 ⟨n,h⟩
end
end Go.Proofs.D
/- Plain lemmas on whole numbers of 64 bits with a sign,sums,products,powers of two. -/
namespace Go.Proofs.D.S
open Go Go.RowKit
set_option linter.unusedVariables false

theorem u64w (n:Int):IntKind.u64.wrap n=n % 18446744073709551616:=by simp [IntKind.wrap,IntKind.bits,IntKind.signed]

theorem add_sum (a b:Int):wrap64 (IntKind.u64.wrap ((IntKind.u64.wrap a)+(IntKind.u64.wrap b)))=wrap64 (a+b):=by
  simp only [u64w,wrap64];omega

theorem mul_prod (a b:Int):wrap64 (IntKind.u64.wrap ((IntKind.u64.wrap a)*(IntKind.u64.wrap b)))=wrap64 (a*b):=by
  simp only [u64w,wrap64]
  rw [← Int.mul_emod]
  omega

theorem ofInt_toNat (a:Int):(BitVec.ofInt 64 a).toNat=(a % 18446744073709551616).toNat:=by
  simp [BitVec.toNat_ofInt]

theorem ofInt_msb (a:Int) (h:-9223372036854775808≤a∧a≤9223372036854775807):(BitVec.ofInt 64 a).msb=decide (a<0):=by
  rw [BitVec.msb_eq_decide,ofInt_toNat]
  simp
  omega

theorem i64_neg (u:BitVec 64):(IntKind.i64.wrap (u.toNat:Int)<0)=(u.msb=true):=by
  rw [BitVec.msb_eq_decide,IntKind.wrap_i64]
  have:=u.isLt
  simp
  omega

theorem and_neg (a b:Int) (ha:-9223372036854775808≤a∧a≤9223372036854775807) (hb:-9223372036854775808≤b∧b≤9223372036854775807) :
    (Go.bits .and .i64 a b<0)↔(a<0∧b<0):=by
  have e:Go.bits .and .i64 a b=IntKind.i64.wrap (((BitVec.ofInt 64 a &&& BitVec.ofInt 64 b).toNat:Nat):Int):=rfl
  rw [e,i64_neg,BitVec.msb_and,ofInt_msb a ha,ofInt_msb b hb]
  simp

theorem i64_range (n:Int):-9223372036854775808≤IntKind.i64.wrap n∧IntKind.i64.wrap n≤9223372036854775807:=by
  rw [IntKind.wrap_i64];omega

theorem xor_neg (a b:Int) (ha:-9223372036854775808≤a∧a≤9223372036854775807) (hb:-9223372036854775808≤b∧b≤9223372036854775807) :
    (Go.bits .xor .i64 a b<0)↔¬ (a<0↔b<0):=by
  have e:Go.bits .xor .i64 a b=IntKind.i64.wrap (((BitVec.ofInt 64 a ^^^ BitVec.ofInt 64 b).toNat:Nat):Int):=rfl
  rw [e,i64_neg,BitVec.msb_xor,ofInt_msb a ha,ofInt_msb b hb]
  by_cases h1:a<0 <;> by_cases h2:b<0 <;> simp [h1,h2]

theorem xor_range (a b:Int):-9223372036854775808≤Go.bits .xor .i64 a b∧Go.bits .xor .i64 a b≤9223372036854775807:=i64_range _

theorem add_test (a b:Int) (ha:-9223372036854775808≤a∧a≤9223372036854775807) (hb:-9223372036854775808≤b∧b≤9223372036854775807) :
    (Go.bits .and .i64 (Go.bits .xor .i64 a (wrap64 (a+b))) (Go.bits .xor .i64 b (wrap64 (a+b)))<0)↔¬ (-9223372036854775808≤a+b∧a+b≤9223372036854775807):=by
  have hs:-9223372036854775808≤wrap64 (a+b)∧wrap64 (a+b)≤9223372036854775807:=by unfold wrap64;omega
  rw [and_neg _ _ (xor_range _ _) (xor_range _ _),xor_neg _ _ ha hs,xor_neg _ _ hb hs]
  unfold wrap64;omega

theorem and_pow (v:Int) (h1:1≤v) (h2:v≤9223372036854775807):(Go.bits .and .i64 v (wrap64 (v-1))=0)↔v.toNat.isPowerOfTwo:=by
  obtain ⟨n,rfl⟩:∃ n:Nat,v=(n:Int):=⟨v.toNat,by omega⟩
  have e:wrap64 ((n:Int)-1)=((n-1:Nat):Int):=by unfold wrap64;omega
  rw [e,(bits_nat .i64 63 (by decide) (fun m h0 h=>by rw [IntKind.wrap_i64];omega) n (n-1) (by omega) (by omega)).1]
  have:=Nat.and_sub_one_eq_zero_iff_isPowerOfTwo (n:=n) (by omega)
  simp only [Int.toNat_natCast]
  rw [← this]
  omega

def R64 (a:Int):Prop:=-9223372036854775808≤a∧a≤9223372036854775807
instance (a:Int):Decidable (R64 a):=by unfold R64;infer_instance

def addS (a b:Int):Int×Bool:=if R64 (a+b) then (a+b,true) else (0,false)
def mulS (a b:Int):Int×Bool:=if R64 (a*b) then (a*b,true) else (0,false)

theorem wrap_in {a:Int} (h:R64 a):wrap64 a=a:=by unfold R64 at h;unfold wrap64;omega
theorem wrap_range (a:Int):R64 (wrap64 a):=by unfold R64 wrap64;omega

theorem mul_back {a b:Int} (ha:R64 a) (hb:R64 b) (h0:b≠0) (h1:¬ (a = -1∧b = -9223372036854775808)) (h2:¬ (b = -1∧a = -9223372036854775808)) :
    (wrap64 (Int.tdiv (wrap64 (a*b)) b)=a)↔R64 (a*b):=by
  constructor
  · intro h
    by_cases hr:R64 (a*b)
    · exact hr
    · exfalso
      have hp:=wrap_range (a*b)
      have hm:∃ m,wrap64 (a*b)=a*b+18446744073709551616*m∧m≠0:=by
        refine ⟨-((a*b+9223372036854775808) / 18446744073709551616),?_,?_⟩
        · unfold wrap64;omega
        · intro h
          apply hr
          unfold R64;omega
      obtain ⟨m,hm,hm0⟩:=hm
      generalize hpp:wrap64 (a*b)=p at *
      by_cases hb1:b = -1
      · subst hb1
        unfold R64 at *
        simp at h2
        omega
      · have hq:R64 (Int.tdiv p b):=by
          have h3:(Int.tdiv p b).natAbs≤p.natAbs:=by
            rw [Int.natAbs_tdiv];exact Nat.div_le_self _ _
          unfold R64 at *
          by_cases hmin:Int.tdiv p b=9223372036854775808
          · exfalso
            have h4:(Int.tdiv p b).natAbs=p.natAbs / b.natAbs:=Int.natAbs_tdiv p b
            rw [hmin] at h4
            have h5:p.natAbs / b.natAbs≤9223372036854775808 / 2:=by
              by_cases hb2:b=1
              · subst hb2
                simp at hmin
                omega
              · calc p.natAbs / b.natAbs≤9223372036854775808 / b.natAbs:=Nat.div_le_div_right (by omega)
                  _≤9223372036854775808 / 2:=Nat.div_le_div_left (by omega) (by omega)
            simp at h4 h5
            omega
          · omega
        rw [wrap_in hq] at h
        have h6:=Int.mul_tdiv_add_tmod p b
        have h7:(Int.tmod p b).natAbs<b.natAbs:=by
          rw [Int.natAbs_tmod];exact Nat.mod_lt _ (by omega)
        rw [h,Int.mul_comm b a] at h6
        unfold R64 at *
        omega
  · intro h
    rw [wrap_in h,Int.mul_tdiv_cancel _ h0,wrap_in ha]

def clog (n:Nat):Nat:=if n≤1 then 0 else Nat.log2 (n-1)+1
theorem le_clog (n:Nat):n≤2 ^ clog n:=by
  unfold clog
  split
  · simpa using (by assumption)
  · have:=@Nat.lt_log2_self (n-1);omega
theorem lt_clog {n e:Nat} (h:e<clog n):2 ^ e<n:=by
  unfold clog at h
  split at h
  · omega
  · have h1:=Nat.log2_self_le (n:=n-1) (by omega)
    have h2:2 ^ e≤2 ^ Nat.log2 (n-1):=Nat.pow_le_pow_right (by decide) (by omega)
    omega
theorem clog_le {n c:Nat} (h:n≤2 ^ c):clog n≤c:=by
  rcases Nat.lt_or_ge c (clog n) with h1 | h1
  · have:=lt_clog h1;omega
  · exact h1
theorem clog_pow (c:Nat):clog (2 ^ c)=c:=by
  apply Nat.le_antisymm (clog_le (Nat.le_refl _))
  rcases Nat.lt_or_ge (clog (2 ^ c)) c with h | h
  · have h1:=le_clog (2 ^ c)
    have h2:2 ^ clog (2 ^ c)<2 ^ c:=Nat.pow_lt_pow_right (by decide) h
    omega
  · exact h

def upS (v:Int):Int×Bool:=if v<1 then (0,false) else if v>4611686018427387904 then (0,false) else (((2 ^ clog v.toNat:Nat):Int),true)

theorem pow62 {e:Nat} (h:e≤62):(2:Nat) ^ e≤4611686018427387904:=by
  have:(2:Nat) ^ e≤2 ^ 62:=Nat.pow_le_pow_right (by decide) h
  simpa using this

def logS (v:Int):Int×Bool:=if 1≤v∧v=((2 ^ Nat.log2 v.toNat:Nat):Int) then ((Nat.log2 v.toNat:Int),true) else (0,false)

theorem isPow_iff {n:Nat}:n.isPowerOfTwo↔n=2 ^ Nat.log2 n:=by
  constructor
  · rintro ⟨k,rfl⟩;rw [Nat.log2_two_pow]
  · intro h;exact ⟨_,h⟩

theorem log2_lt63 {v:Int} (h1:1≤v) (h2:v≤9223372036854775807):Nat.log2 v.toNat≤62:=by
  have:=(Nat.log2_lt (n:=v.toNat) (k:=63) (by omega)).2 (by omega)
  omega

def roundS (v d:Int):Int×Bool:=if v<0 then (0,false) else if d<1 then (0,false) else if v % d=0 then (v,true) else addS v (d-v % d)


theorem clog_mono {a b:Nat} (h:a≤b):clog a≤clog b:=clog_le (Nat.le_trans h (le_clog b))

theorem clog_max (a b:Nat):clog (max a b)=max (clog a) (clog b):=by
  rcases Nat.le_total a b with h | h
  · rw [Nat.max_eq_right h,Nat.max_eq_right (clog_mono h)]
  · rw [Nat.max_eq_left h,Nat.max_eq_left (clog_mono h)]

theorem clog16 {n:Nat} (h:n≤65536):clog n≤16:=clog_le h

theorem pow16 {e:Nat} (h:e≤16):(2:Nat) ^ e≤65536:=by
  have:(2:Nat) ^ e≤2 ^ 16:=Nat.pow_le_pow_right (by decide) h
  simpa using this

theorem pow17 {e:Nat} (h:e≤17):(2:Nat) ^ e≤131072:=by
  have:(2:Nat) ^ e≤2 ^ 17:=Nat.pow_le_pow_right (by decide) h
  simpa using this

theorem upS_in {v:Int} (h1:1≤v) (h2:v≤4611686018427387904):upS v=(((2 ^ clog v.toNat:Nat):Int),true):=by
  unfold upS;rw [if_neg (by omega),if_neg (by omega)]

theorem logS_pow (e:Nat):logS ((2 ^ e:Nat):Int)=((e:Int),true):=by
  have:=Nat.two_pow_pos e
  unfold logS
  rw [if_pos ⟨by omega,by rw [Int.toNat_natCast,Nat.log2_two_pow]⟩,Int.toNat_natCast,Nat.log2_two_pow]

def eG (g:Int):Nat:=clog g.toNat
def eN (g la:Int):Nat:=max (clog la.toNat) (eG g)
def ePg (g pa:Int):Nat:=max (clog pa.toNat) (eG g)
def wS (g la pa:Int):Int:=((2 ^ (max (eN g la) (ePg g pa)+1):Nat):Int)
def mS (g la li pa:Int):Int:=if li % wS g la pa=0 then li else li+(wS g la pa-li % wS g la pa)
def lS (g la:Int):Int:=((eN g la-eG g:Nat):Int)
def hS (g la li pa:Int):Int:=mS g la li pa+lS g la*(mS g la li pa / 2)

def InS (g la li pa bu se:Int):Prop :=
  (1≤g∧g≤65536)∧(1≤la∧la≤65536)∧(1≤li∧li≤65536)∧(1≤pa∧pa≤65536)∧(0≤bu∧bu≤65536)∧(0≤se∧se≤255)
instance (g la li pa bu se:Int):Decidable (InS g la li pa bu se):=by unfold InS;infer_instance

def noS:Int×Int×Int×Int×Int×Int×Int×Int×Int:=(0,0,0,0,0,0,0,0,1)
def ofS (g la li pa bu se:Int):Int×Int×Int×Int×Int×Int×Int×Int×Int :=
  if InS g la li pa bu se then
    if hS g la li pa>65536 then noS
    else (((2 ^ eG g:Nat):Int),((2 ^ eN g la:Nat):Int),mS g la li pa,lS g la,((2 ^ ePg g pa:Nat):Int),bu,hS g la li pa,se,0)
  else noS

theorem eG_le {g:Int} (h:g≤65536):eG g≤16:=clog16 (by omega)
theorem eN_le {g la:Int} (h:g≤65536) (h2:la≤65536):eN g la≤16:=by
  have h1:=clog16 (n:=la.toNat) (by omega)
  have h2:=eG_le h
  unfold eN;omega
theorem ePg_le {g pa:Int} (h:g≤65536) (h2:pa≤65536):ePg g pa≤16:=by
  have h1:=clog16 (n:=pa.toNat) (by omega)
  have h2:=eG_le h
  unfold ePg;omega

theorem clog_toMax (a:Int) (e:Nat) (x:Int) (hx:x=if a<((2 ^ e:Nat):Int) then ((2 ^ e:Nat):Int) else a):clog x.toNat=max (clog a.toNat) e:=by
  have hpos:=Nat.two_pow_pos e
  have h:x.toNat=max a.toNat (2 ^ e):=by
    subst hx
    split
    · rw [Nat.max_eq_right (by omega)];omega
    · rw [Nat.max_eq_left (by omega)]
  rw [h,clog_max,clog_pow]

theorem mS_facts {g la li pa:Int} (_:1≤li) (_:li≤65536) (hg:g≤65536) (hl:la≤65536) (hp:pa≤65536) :
    li≤mS g la li pa∧mS g la li pa<li+wS g la pa∧mS g la li pa % wS g la pa=0∧1<wS g la pa∧wS g la pa≤131072:=by
  have hw:wS g la pa≤131072:=by
    unfold wS
    have a1:=eN_le hg hl
    have a2:=ePg_le hg hp
    have:=pow17 (e:=max (eN g la) (ePg g pa)+1) (by omega)
    omega
  have hw1:1<wS g la pa:=by
    unfold wS
    have:=Nat.two_pow_pos (max (eN g la) (ePg g pa))
    rw [Nat.pow_succ];omega
  have h3:=Int.emod_nonneg li (b:=wS g la pa) (by omega)
  have h4:=Int.emod_lt_of_pos li (b:=wS g la pa) (by omega)
  have h7:=Int.mul_ediv_add_emod li (wS g la pa)
  unfold mS
  by_cases h5:li % wS g la pa=0
  · rw [if_pos h5];exact ⟨by omega,by omega,h5,hw1,hw⟩
  · rw [if_neg h5]
    refine ⟨by omega,by omega,?_,hw1,hw⟩
    have:li+(wS g la pa-li % wS g la pa)=wS g la pa*(li / wS g la pa+1):=by rw [Int.mul_add];omega
    rw [this,Int.mul_emod_right]

theorem round_mS {g la li pa:Int} (h1:1≤li) (h2:li≤65536) (hg:g≤65536) (hl:la≤65536) (hp:pa≤65536) :
    roundS li (wS g la pa)=(mS g la li pa,true):=by
  obtain ⟨a1,a2,a3,a4,a5⟩:=mS_facts (g:=g) (la:=la) (pa:=pa) h1 h2 hg hl hp
  have h3:=Int.emod_nonneg li (b:=wS g la pa) (by omega)
  have h4:=Int.emod_lt_of_pos li (b:=wS g la pa) (by omega)
  unfold roundS mS
  rw [if_neg (by omega),if_neg (by omega)]
  by_cases h5:li % wS g la pa=0
  · rw [if_pos h5,if_pos h5]
  · rw [if_neg h5,if_neg h5]
    unfold addS
    rw [if_pos (by unfold R64;omega)]

theorem lS_range {g la:Int} (hg:g≤65536) (hl:la≤65536):0≤lS g la∧lS g la≤16:=by
  have:=eN_le hg hl
  unfold lS;omega

theorem hS_range {g la li pa:Int} (h1:1≤li) (h2:li≤65536) (hg:g≤65536) (hl:la≤65536) (hp:pa≤65536) :
    1≤hS g la li pa∧hS g la li pa≤10000000∧0≤lS g la*(mS g la li pa / 2)∧lS g la*(mS g la li pa / 2)≤16*200000:=by
  obtain ⟨a1,a2,a3,a4,a5⟩:=mS_facts (g:=g) (la:=la) (pa:=pa) h1 h2 hg hl hp
  obtain ⟨b1,b2⟩:=lS_range hg hl
  have c1:0≤lS g la*(mS g la li pa / 2):=Int.mul_nonneg b1 (by omega)
  have c2:lS g la*(mS g la li pa / 2)≤16*200000:=Int.mul_le_mul b2 (by omega) (by omega) (by omega)
  unfold hS
  omega

structure CfOk (G N M L Pg P H Sd:Int):Prop where
  ex:∃ g l p q:Nat,G=((2 ^ g:Nat):Int)∧N=((2 ^ (g+l):Nat):Int)∧L=(l:Int)∧Pg=((2 ^ p:Nat):Int)∧g≤p∧1≤q∧M=((q*2 ^ (max (g+l) p+1):Nat):Int)∧g+l≤16∧p≤16
  hH:H=M+L*(M / 2)
  hle:H≤65536
  hP:0≤P∧P≤65536
  hS:0≤Sd∧Sd≤255

theorem ofS_ok {g la li pa bu se:Int} (h:(ofS g la li pa bu se).1≠0) :
    CfOk (ofS g la li pa bu se).1 (ofS g la li pa bu se).2.1 (ofS g la li pa bu se).2.2.1 (ofS g la li pa bu se).2.2.2.1 (ofS g la li pa bu se).2.2.2.2.1 (ofS g la li pa bu se).2.2.2.2.2.1 (ofS g la li pa bu se).2.2.2.2.2.2.1 (ofS g la li pa bu se).2.2.2.2.2.2.2.1:=by
  unfold ofS at h ⊢
  by_cases h1:InS g la li pa bu se
  · rw [if_pos h1] at h ⊢
    by_cases h2:hS g la li pa>65536
    · rw [if_pos h2] at h;exact absurd rfl h
    · rw [if_neg h2]
      obtain ⟨⟨g1,g2⟩,⟨l1,l2⟩,⟨i1,i2⟩,⟨p1,p2⟩,hb,hs⟩:=h1
      obtain ⟨a1,a2,a3,a4,a5⟩:=mS_facts (g:=g) (la:=la) (pa:=pa) i1 i2 g2 l2 p2
      have e1:eG g≤eN g la:=by unfold eN;omega
      have e2:eG g≤ePg g pa:=by unfold ePg;omega
      have b1:=eN_le g2 l2
      have b2:=ePg_le g2 p2
      refine ⟨⟨eG g,eN g la-eG g,ePg g pa,(mS g la li pa / wS g la pa).toNat,rfl,?_,rfl,rfl,e2,?_,?_,by omega,b2⟩,rfl,by show hS g la li pa≤65536;omega,hb,hs⟩
      · rw [show eG g+(eN g la-eG g)=eN g la by omega]
      · have h7:=Int.mul_ediv_add_emod (mS g la li pa) (wS g la pa)
        rcases Int.lt_or_le (mS g la li pa / wS g la pa) 1 with h | h
        · have h9:wS g la pa*(mS g la li pa / wS g la pa)≤0:=Int.mul_nonpos_of_nonneg_of_nonpos (by omega) (by omega)
          omega
        · omega
      · have h7:=Int.mul_ediv_add_emod (mS g la li pa) (wS g la pa)
        have h8:=Int.ediv_nonneg (a:=mS g la li pa) (b:=wS g la pa) (by omega) (by omega)
        have h9:((wS g la pa))=((2 ^ (max (eG g+(eN g la-eG g)) (ePg g pa)+1):Nat):Int):=by
          rw [show eG g+(eN g la-eG g)=eN g la by omega];rfl
        rw [Int.natCast_mul,Int.toNat_of_nonneg h8,← h9,Int.mul_comm]
        show mS g la li pa=_
        omega
  · rw [if_neg h1] at h;exact absurd rfl h

def chargeS (G N s a:Int):Int×Int :=
  if (logS a).2=false∨a>N then (0,3) else if s<0∨s>N then (0,4) else ((2 ^ clog (max (max s a) G).toNat:Nat),0)
def productS (N n s:Int):Int×Int :=
  if n<0∨s<0 then (0,2) else if n*s>N then (0,4) else (n*s,0)
def shiftS (g l:Nat) (c:Int):Int×Bool :=
  if c=((2 ^ Nat.log2 c.toNat:Nat):Int)∧g≤Nat.log2 c.toNat∧Nat.log2 c.toNat≤g+l then (((Nat.log2 c.toNat-g:Nat):Int),true) else (0,false)
def newS (G N M live s a:Int):Int×Int :=
  if (chargeS G N s a).2=0 then (if live+(chargeS G N s a).1>M then (0,5) else ((chargeS G N s a).1,0)) else (0,(chargeS G N s a).2)
def manyS (G N M live n s:Int):Int×Int :=
  if (productS N n s).2=0 then newS G N M live (productS N n s).1 1 else (0,(productS N n s).2)
def ceilS (M L k:Int):Int:=if k<0 then 0 else if k>L then 0 else M+k*(M / 2)

theorem max_if (a b:Int):max a b=if a<b then b else a:=by
  by_cases h:a<b
  · rw [if_pos h];omega
  · rw [if_neg h];omega

theorem chargeS_ok {g n:Nat} {s a:Int} (h:(chargeS ((2 ^ g:Nat):Int) ((2 ^ n:Nat):Int) s a).2=0) (hgn:g≤n) :
    ∃ c:Nat,g≤c∧c≤n∧(chargeS ((2 ^ g:Nat):Int) ((2 ^ n:Nat):Int) s a).1=((2 ^ c:Nat):Int)∧s≤((2 ^ c:Nat):Int)∧a≤((2 ^ c:Nat):Int)∧0≤s:=by
  unfold chargeS at h ⊢
  by_cases h1:(logS a).2=false∨a>((2 ^ n:Nat):Int)
  · rw [if_pos h1] at h;simp at h
  · rw [if_neg h1] at h ⊢
    by_cases h2:s<0∨s>((2 ^ n:Nat):Int)
    · rw [if_pos h2] at h;simp at h
    · rw [if_neg h2]
      have p1:=Nat.two_pow_pos g
      have p2:(2:Nat) ^ g≤2 ^ n:=Nat.pow_le_pow_right (by decide) hgn
      have hle:=le_clog (max (max s a) ((2 ^ g:Nat):Int)).toNat
      refine ⟨clog (max (max s a) ((2 ^ g:Nat):Int)).toNat,?_,clog_le (by omega),rfl,by omega,by omega,by omega⟩
      have:=clog_mono (a:=2 ^ g) (b:=(max (max s a) ((2 ^ g:Nat):Int)).toNat) (by omega)
      rwa [clog_pow] at this

theorem shiftS_pow {g l k:Nat} (h:k≤l):shiftS g l ((2 ^ (g+k):Nat):Int)=((k:Int),true):=by
  unfold shiftS
  rw [Int.toNat_natCast,Nat.log2_two_pow,if_pos ⟨rfl,by omega,by omega⟩,show g+k-g=k by omega]

theorem shiftS_none {g l:Nat} {c:Int} (h:∀ k,k≤l→c≠((2 ^ (g+k):Nat):Int)):shiftS g l c=(0,false):=by
  unfold shiftS
  rw [if_neg]
  rintro ⟨h1,h2,h3⟩
  exact h (Nat.log2 c.toNat-g) (by omega) (by rw [show g+(Nat.log2 c.toNat-g)=Nat.log2 c.toNat by omega];exact h1)

end Go.Proofs.D.S
/- How one speaks of the machine's heap: rows and maps that are held,and what was there before,untouched. -/
set_option linter.unusedVariables false
namespace Go.Proofs.D.S
open Go
theorem nr {α:Type _} {a b:α} (h:a=b):a=b:=h
section steps
variable {α β:Type}
theorem q_bs (x:α) (f:α→Option β):(some x).bind f=f x:=nr rfl
theorem q_I (k:IntKind) (n:Int):Cell.asI k (.int k n)=some n:=nr (by simp [Cell.asI])
theorem q_B (b:Bool):Cell.asB (.bool b)=some b:=nr rfl
theorem q_P (a b:Nat):Cell.asP (.ptr a b)=some (a,b):=nr rfl
theorem q_S (es a b c:Nat):Cell.asS es (.sl es a b c)=some (a,b,c):=nr (by simp [Cell.asS])
theorem q_M (a:Nat):Cell.asM (.map a)=some a:=nr rfl
theorem q_c (x:Cell):(V1.c x).c? = some x:=nr rfl
theorem q_a (x:List Cell):(V1.agg x).a? = some x:=nr rfl
theorem q_gz (a:α) (l:List α):(a::l)[0]? = some a:=nr rfl
theorem q_gs (a:α) (l:List α) (n:Nat):(a::l)[n+1]? = l[n]?:=nr rfl
theorem q_gk (K:Option α):guardK true K=K:=nr rfl
theorem q_ct (x y:α):(bif true then x else y)=x:=nr rfl
theorem q_cf (x y:α):(bif false then x else y)=y:=nr rfl
theorem q_nt:(!true)=false:=nr rfl
theorem q_nf:(!false)=true:=nr rfl
theorem q_xt (b:Bool):Bool.xor true b = !b:=nr (by cases b <;> rfl)
theorem q_xf (b:Bool):Bool.xor false b=b:=nr (by cases b <;> rfl)
theorem q_tt:(true == true)=true:=nr rfl
theorem q_ff:(false == false)=true:=nr rfl
theorem q_tf:(true == false)=false:=nr rfl
theorem q_ft:(false == true)=false:=nr rfl
theorem q_at (b:Bool):(true&&b)=b:=nr rfl
theorem q_af (b:Bool):(false&&b)=false:=nr rfl
end steps
theorem Qs:(∀ {α β:Type} (x:α) (f:α→Option β),(some x).bind f=f x)∧(∀ (k:IntKind) (n:Int),Cell.asI k (.int k n)=some n)∧(∀ b:Bool,Cell.asB (.bool b)=some b)∧(∀ a b:Nat,Cell.asP (.ptr a b)=some (a,b))∧(∀ es a b c:Nat,Cell.asS es (.sl es a b c)=some (a,b,c))∧(∀ a:Nat,Cell.asM (.map a)=some a)∧(∀ x:Cell,(V1.c x).c? = some x)∧(∀ x:List Cell,(V1.agg x).a? = some x) ∧
    (∀ {α:Type} (a:α) (l:List α),(a::l)[0]? = some a)∧(∀ {α:Type} (a:α) (l:List α) (n:Nat),(a::l)[n+1]? = l[n]?)∧(∀ {α:Type} (K:Option α),guardK true K=K)∧(∀ {α:Type} (x y:α),(bif true then x else y)=x)∧(∀ {α:Type} (x y:α),(bif false then x else y)=y)∧((!true)=false)∧((!false)=true)∧(∀ b:Bool,Bool.xor true b = !b)∧(∀ b:Bool,Bool.xor false b=b) ∧
    ((true == true)=true)∧((false == false)=true)∧((true == false)=false)∧((false == true)=false)∧(∀ b:Bool,(true&&b)=b)∧(∀ b:Bool,(false&&b)=false) :=
  ⟨q_bs,q_I,q_B,q_P,q_S,q_M,q_c,q_a,q_gz,q_gs,q_gk,q_ct,q_cf,q_nt,q_nf,q_xt,q_xf,q_tt,q_ff,q_tf,q_ft,q_at,q_af⟩
section cps
variable {R:Type}
@[simp] theorem guardK_true (K:Option R):guardK true K=K:=rfl
theorem guardK_of {b:Bool} (h:b=true) (K:Option R):guardK b K=K:=by subst h;rfl
theorem guardD_of {p:Prop} [Decidable p] (h:p) (K:Option R):guardK (decide p) K=K:=by rw [decide_eq_true h];rfl
theorem condD_pos {p:Prop} [Decidable p] (h:p) (x y:R):(bif decide p then x else y)=x:=by rw [decide_eq_true h];rfl
theorem condD_neg {p:Prop} [Decidable p] (h:¬ p) (x y:R):(bif decide p then x else y)=y:=by rw [decide_eq_false h];rfl
theorem condN_pos {p:Prop} [Decidable p] (h:¬ p) (x y:R):(bif !decide p then x else y)=x:=by rw [decide_eq_false h];rfl
theorem condN_neg {p:Prop} [Decidable p] (h:p) (x y:R):(bif !decide p then x else y)=y:=by rw [decide_eq_true h];rfl
end cps
@[simp] theorem asI_int (k:IntKind) (n:Int):Cell.asI k (.int k n)=some n:=by simp [Cell.asI]
@[simp] theorem asB_bool (b:Bool):Cell.asB (.bool b)=some b:=rfl
@[simp] theorem asP_ptr (a b:Nat):Cell.asP (.ptr a b)=some (a,b):=rfl
@[simp] theorem asS_sl (es a b c:Nat):Cell.asS es (.sl es a b c)=some (a,b,c):=by simp [Cell.asS]
@[simp] theorem asM_map (a:Nat):Cell.asM (.map a)=some a:=rfl
@[simp] theorem asF_fn (a:Nat):Cell.asF (.fn a)=some a:=rfl
@[simp] theorem c_c? (x:Cell):(V1.c x).c? = some x:=rfl
@[simp] theorem agg_a? (x:List Cell):(V1.agg x).a? = some x:=rfl

section heap
variable {G G' G0:GH}
theorem own_row {id:Nat} {cs:List Cell} (h:G.get id=some (.row cs false)):G.own id=some cs:=by unfold GH.own;rw [h]
theorem row_row {id:Nat} {cs:List Cell} {fz:Bool} (h:G.get id=some (.row cs fz)):G.row id=some cs:=by unfold GH.row;rw [h]
theorem ld_row {id off:Nat} {cs:List Cell} (h:G.row id=some cs):G.ld id off=cs[off]?:=by unfold GH.ld;rw [h];rfl
theorem wf_lt (w:G.wf) {id:Nat} {o:Obj} (h:G.get id=some o):id<G.next:=by
  rcases Nat.lt_or_ge id G.next with k | k
  · exact k
  · rw [w.1 id k] at h;cases h
theorem row_get {id:Nat} {cs:List Cell} (h:G.row id=some cs):∃ o,G.get id=some o∧(o = .lit cs∨∃ fz,o = .row cs fz):=by
  unfold GH.row at h
  split at h
  · rename_i fz e;cases h;exact ⟨_,e,.inr ⟨fz,rfl⟩⟩
  · rename_i e;cases h;exact ⟨_,e,.inl rfl⟩
  · cases h
theorem row_cong {G1:GH} {id:Nat} {cs:List Cell} (h:G.row id=some cs) (e:G1.get id=G.get id):G1.row id=some cs:=by unfold GH.row at h ⊢;rw [e];exact h
theorem row_lt (w:G.wf) {id:Nat} {cs:List Cell} (h:G.row id=some cs):id<G.next:=by obtain ⟨o,e,_⟩:=row_get h;exact wf_lt w e
def EOk (B:Nat) (G:GH) (e:Nat×Obj):Prop:=(e.1=0∧e.2 = .row [] false)∨(B≤e.1∧1≤e.1∧G.get e.1=some e.2)
structure Hp (G0 G:GH) (L:List (Nat×Obj)):Prop where
  wf0:G0.wf
  wf:G.wf
  nx:G0.next≤G.next
  old:∀ id,id<G0.next→G.get id=G0.get id
  ok:∀ e∈L,EOk G0.next G e
  nd:L.Pairwise fun a b=>a.1≠b.1∨a.1=0
theorem Hp.refl (w:G.wf):Hp G G []:=⟨w,w,Nat.le_refl _,fun _ _=>rfl,by simp,List.Pairwise.nil⟩
variable {L L' R:List (Nat×Obj)}
theorem Hp.alloc (h:Hp G0 G L) (o:Obj):Hp G0 (G.alloc o) ((G.next,o)::L):=by
  have w:=wf_alloc h.wf o
  refine ⟨h.wf0,w,by rw [GH.next_alloc];have:=h.nx;omega,fun id hid=>?_,fun e he=>?_,List.Pairwise.cons (fun e he=>?_) h.nd⟩
  · rw [GH.get_alloc,if_neg (by have:=h.nx;omega)];exact h.old id hid
  · rcases List.mem_cons.1 he with rfl | he
    · exact .inr ⟨h.nx,h.wf.2,by rw [GH.get_alloc,if_pos rfl]⟩
    · rcases h.ok e he with k | ⟨a,b,c⟩
      · exact .inl k
      · exact .inr ⟨a,b,by rw [GH.get_alloc,if_neg (by have:=wf_lt h.wf c;omega)];exact c⟩
  · rcases h.ok e he with ⟨k,_⟩ | ⟨a,b,c⟩
    · left;have:=h.wf.2;dsimp only;omega
    · left;have:=wf_lt h.wf c;dsimp only;omega
theorem EOk.keep {B:Nat} {e:Nat×Obj} (h:EOk B G e) {id:Nat} {o:Option Obj} (hid:id≠0) (ne:id≠e.1∨id=0):EOk B (G.set id o) e:=by
  rcases h with k | ⟨a,b,c⟩
  · exact .inl k
  · exact .inr ⟨a,b,by rw [GH.get_set,if_neg (by rcases ne with ne | ne <;> omega)];exact c⟩
theorem Hp.hd {id:Nat} {o:Obj} (h:Hp G0 G ((id,o)::L)) (hid:id≠0):G0.next≤id∧G.get id=some o:=by
  rcases h.ok (id,o) (by simp) with ⟨k,_⟩ | ⟨a,b,c⟩
  · exact absurd k hid
  · exact ⟨a,c⟩
theorem Hp.set {id:Nat} {o o':Obj} (h:Hp G0 G ((id,o)::L)) (hid:id≠0):Hp G0 (G.set id (some o')) ((id,o')::L):=by
  obtain ⟨hb,hg⟩:=h.hd hid
  obtain ⟨n1,n2⟩:=List.pairwise_cons.1 h.nd
  refine ⟨h.wf0,wf_set' h.wf hg,by rw [GH.next_set];exact h.nx,fun j hj=>?_,fun e he=>?_,List.pairwise_cons.2 ⟨n1,n2⟩⟩
  · rw [GH.get_set,if_neg (by omega)];exact h.old j hj
  · rcases List.mem_cons.1 he with rfl | he
    · exact .inr ⟨hb,by dsimp only;omega,by rw [GH.get_set,if_pos rfl]⟩
    · exact (h.ok e (by simp [he])).keep hid (n1 e he)
theorem Hp.free {id:Nat} {o:Obj} (h:Hp G0 G ((id,o)::L)) (hid:id≠0):Hp G0 (G.set id none) L:=by
  obtain ⟨hb,hg⟩:=h.hd hid
  obtain ⟨n1,n2⟩:=List.pairwise_cons.1 h.nd
  refine ⟨h.wf0,wf_set' h.wf hg,by rw [GH.next_set];exact h.nx,fun j hj=>?_,fun e he=>?_,n2⟩
  · rw [GH.get_set,if_neg (by omega)];exact h.old j hj
  · exact (h.ok e (by simp [he])).keep hid (n1 e he)
theorem Hp.perm (h:Hp G0 G L) (p:L.Perm L'):Hp G0 G L' :=
  ⟨h.wf0,h.wf,h.nx,h.old,fun e he=>h.ok e (p.mem_iff.2 he),(p.pairwise_iff (R:=fun a b:Nat×Obj=>a.1≠b.1∨a.1=0) (fun {a b} k=>(by omega:b.1≠a.1∨b.1=0))).1 h.nd⟩
theorem Hp.sub (h:Hp G0 G L) (p:L'.Sublist L):Hp G0 G L':=⟨h.wf0,h.wf,h.nx,h.old,fun e he=>h.ok e (p.subset he),h.nd.sublist p⟩
theorem Hp.tl {e:Nat×Obj} (h:Hp G0 G (e::L)):Hp G0 G L:=h.sub (List.sublist_cons_self _ _)
theorem Hp.nil (h:Hp G0 G L):Hp G0 G []:=h.sub (List.nil_sublist _)
def pick {α:Type}:List α→Nat→List α
  | [],_=>[]
  | a::l,0=>a::l
  | a::l,k+1=>match pick l k with
    | []=>[a]
    | b::m=>b::a::m
theorem pick_perm {α:Type}:∀ (l:List α) (k:Nat),l.Perm (pick l k)
  | [],k=>by simp [pick]
  | a::l,0=>by simp [pick]
  | a::l,k+1=>by
    have h:=pick_perm l k
    unfold pick
    cases e:pick l k with
    | nil=>rw [e] at h;rw [h.eq_nil]
    | cons b m=>rw [e] at h;exact (h.cons a).trans (List.Perm.swap b a _)
theorem Hp.pick (h:Hp G0 G L) (k:Nat):Hp G0 G (pick L k):=h.perm (pick_perm L k)
theorem Hp.trans (h:Hp G0 G L) (k:Hp G G' R):Hp G0 G' (R++L):=by
  refine ⟨h.wf0,k.wf,Nat.le_trans h.nx k.nx,fun id hid=>?_,fun e he=>?_,List.pairwise_append.2 ⟨k.nd,h.nd,fun a ha b hb=>?_⟩⟩
  · rw [k.old id (Nat.lt_of_lt_of_le hid h.nx),h.old id hid]
  · rcases List.mem_append.1 he with he | he
    · rcases k.ok e he with q | ⟨a,b,c⟩
      · exact .inl q
      · exact .inr ⟨Nat.le_trans h.nx a,b,c⟩
    · rcases h.ok e he with q | ⟨a,b,c⟩
      · exact .inl q
      · exact .inr ⟨a,b,by rw [k.old _ (wf_lt h.wf c)];exact c⟩
  · rcases k.ok a ha with ⟨q,_⟩ | ⟨a1,b1,c1⟩
    · exact .inr q
    · rcases h.ok b hb with ⟨q,_⟩ | ⟨a2,b2,c2⟩
      · left;omega
      · left;have:=wf_lt h.wf c2;omega
theorem Hp.trans0 (h:Hp G0 G L) (k:Hp G G' []):Hp G0 G' L:=h.trans k
theorem Hp.get {id:Nat} {o:Obj} (h:Hp G0 G L) (he:(id,o)∈L) (hid:id≠0):G.get id=some o:=by
  rcases h.ok (id,o) he with ⟨k,_⟩ | ⟨a,b,c⟩
  · exact absurd k hid
  · exact c
theorem Hp.row {id:Nat} {cs:List Cell} (h:Hp G0 G L) (he:(id,Obj.row cs false)∈L):cs=[]∨(id≠0∧G.get id=some (.row cs false)):=by
  rcases h.ok _ he with ⟨_,k⟩ | ⟨a,b,c⟩
  · left;cases k;rfl
  · right;exact ⟨by dsimp only at b;omega,c⟩
theorem Hp.look {id:Nat} {o:Obj} (h:Hp G0 G L) (hg:G0.get id=some o):G.get id=some o:=by rw [h.old id (wf_lt h.wf0 hg)];exact hg
theorem Hp.lookRow {id:Nat} {cs:List Cell} (h:Hp G0 G L) (hg:G0.row id=some cs):G.row id=some cs:=by
  exact row_cong hg (h.old id (row_lt h.wf0 hg))
end heap

section slices
variable {α:Type} {k:Nat} {e:α→List Cell} {G G' G0:GH} {L R:List (Nat×Obj)}
abbrev cells (e:α→List Cell) (xs:List α):List Cell:=xs.flatMap e
class Wide (k:outParam Nat) (e:α→List Cell):Prop where
  len:∀ a,(e a).length=k
  pos:0<k
theorem cells_len [W:Wide k e] (xs:List α):(cells e xs).length=xs.length*k:=by
  induction xs with
  | nil=>simp [cells]
  | cons x xs ih=>simp only [cells,List.flatMap_cons,List.length_append,W.len,List.length_cons] at ih ⊢;rw [ih,Nat.succ_mul];omega
theorem cells_app (xs ys:List α):cells e (xs++ys)=cells e xs++cells e ys:=List.flatMap_append
theorem cells_get [W:Wide k e]:∀ (xs:List α) (i j:Nat) (hi:i<xs.length),j<k→(cells e xs)[i*k+j]? = (e xs[i])[j]?
  | [],i,j,hi,hj=>by simp at hi
  | x::xs,0,j,hi,hj=>by
    simp only [cells,List.flatMap_cons,Nat.zero_mul,Nat.zero_add,List.getElem_cons_zero]
    rw [List.getElem?_append_left (by rw [W.len];exact hj)]
  | x::xs,i+1,j,hi,hj=>by
    simp only [cells,List.flatMap_cons,List.getElem_cons_succ]
    rw [List.getElem?_append_right (by rw [W.len,Nat.succ_mul];omega),W.len,show (i+1)*k+j-k=i*k+j by rw [Nat.succ_mul];omega]
    exact cells_get xs i j (by simpa using hi) hj
theorem cells_drop [W:Wide k e] (xs:List α) (n:Nat):(cells e xs).drop (n*k)=cells e (xs.drop n):=by
  induction n generalizing xs with
  | zero=>simp
  | succ n ih =>
    cases xs with
    | nil=>simp [cells]
    | cons x xs =>
      have h2:(cells e (x::xs)).drop ((n+1)*k)=(cells e xs).drop (n*k):=by
        simp only [cells,List.flatMap_cons]
        rw [List.drop_append,List.drop_of_length_le (by rw [W.len,Nat.succ_mul];omega),List.nil_append,W.len,Nat.succ_mul,Nat.add_sub_cancel]
      rw [h2,List.drop_succ_cons];exact ih xs
theorem cells_take [W:Wide k e] (xs:List α) (n:Nat):(cells e xs).take (n*k)=cells e (xs.take n):=by
  induction n generalizing xs with
  | zero=>simp [cells]
  | succ n ih =>
    cases xs with
    | nil=>simp [cells]
    | cons x xs =>
      have h2:(cells e (x::xs)).take ((n+1)*k)=e x++(cells e xs).take (n*k):=by
        simp only [cells,List.flatMap_cons]
        rw [List.take_append,List.take_of_length_le (by rw [W.len,Nat.succ_mul];omega),W.len,Nat.succ_mul,Nat.add_sub_cancel]
      rw [h2,List.take_succ_cons,ih xs];simp [cells]
def Sl (G:GH) (e:α→List Cell) (id off:Nat) (xs:List α):Prop :=
  xs=[]∨∃ cs,G.row id=some cs∧off+(cells e xs).length≤cs.length∧(cs.drop off).take (cells e xs).length=cells e xs
theorem Sl.nil {id off:Nat}:Sl G e id off ([]:List α):=.inl rfl
theorem Sl.keep {id off:Nat} {xs:List α} (s:Sl G e id off xs) (h:Hp G G' R):Sl G' e id off xs:=by
  rcases s with s | ⟨cs,a,b,c⟩
  · exact .inl s
  · exact .inr ⟨cs,h.lookRow a,b,c⟩
theorem Sl.ld [W:Wide k e] {id off:Nat} {xs:List α} (s:Sl G e id off xs) (i j:Nat) (hi:i<xs.length) (hj:j<k):G.ld id (off+i*k+j)=(e xs[i])[j]?:=by
  rcases s with s | ⟨cs,a,b,c⟩
  · subst s;simp at hi
  · rw [ld_row a,← cells_get xs i j hi hj,← c,List.getElem?_take,if_pos,List.getElem?_drop,Nat.add_assoc]
    rw [cells_len]
    have:(i+1)*k≤xs.length*k:=Nat.mul_le_mul_right _ hi
    rw [Nat.succ_mul] at this;omega
theorem Sl.lds [W:Wide k e] {id off n:Nat} {xs:List α} (s:Sl G e id off xs) (hn:n=xs.length):(if n=0 then some [] else G.lds id off (n*k))=some (cells e xs):=by
  subst hn
  rcases s with s | ⟨cs,a,b,c⟩
  · subst s;simp [cells]
  · by_cases h:xs.length=0
    · rw [if_pos h,List.length_eq_zero_iff.1 h];simp [cells]
    · rw [if_neg h]
      unfold GH.lds
      rw [cells_len] at b c
      rw [a,Option.bind_some,if_pos b,c]
theorem Sl.sub [W:Wide k e] {id off:Nat} {xs:List α} (s:Sl G e id off xs) (l m:Nat) (hm:l+m≤xs.length):Sl G e id (off+l*k) ((xs.drop l).take m):=by
  rcases s with s | ⟨cs,a,b,c⟩
  · subst s;left;simp
  · right
    refine ⟨cs,a,?_,?_⟩
    · rw [cells_len] at b ⊢
      have:((xs.drop l).take m).length=m:=by rw [List.length_take,List.length_drop];omega
      rw [this]
      have:(l+m)*k≤xs.length*k:=Nat.mul_le_mul_right _ hm
      rw [Nat.add_mul] at this;omega
    · have e1:(cells e ((xs.drop l).take m))=((cells e xs).drop (l*k)).take (m*k):=by rw [cells_drop,cells_take]
      have e2:(cells e ((xs.drop l).take m)).length=m*k:=by rw [cells_len,List.length_take,List.length_drop,Nat.min_eq_left (by omega)]
      rw [e2,e1,← c,List.drop_take,List.take_take,List.drop_drop,cells_len]
      congr 1
      have:(l+m)*k≤xs.length*k:=Nat.mul_le_mul_right _ hm
      rw [Nat.add_mul] at this;omega
abbrev rowE (e:α→List Cell) (id:Nat) (xs:List α):Nat×Obj:=(id,.row (cells e xs) false)
theorem cells_nil [W:Wide k e] {xs:List α} (h:cells e xs=[]):xs=[]:=by
  have:=cells_len (e:=e) xs
  rw [h] at this
  cases xs with
  | nil=>rfl
  | cons x xs=>have:=W.pos;simp [Nat.succ_mul] at *;omega
theorem Hp.sl [W:Wide k e] {id:Nat} {xs:List α} (h:Hp G0 G L) (he:rowE e id xs∈L):Sl G e id 0 xs:=by
  rcases h.ok _ he with ⟨a,b⟩ | ⟨a,b,c⟩
  · left;simp only [rowE,Obj.row.injEq,and_true] at b;exact cells_nil b
  · exact .inr ⟨_,row_row c,by omega,by rw [List.drop_zero,List.take_length]⟩
theorem Hp.sl0 [W:Wide k e] {id:Nat} {xs:List α} (h:Hp G0 G (rowE e id xs::L)):Sl G e id 0 xs:=h.sl (by simp)
theorem cells_set [W:Wide k e]:∀ (xs:List α) (i:Nat) (x:α),i<xs.length→splice (cells e xs) (i*k) (e x)=cells e (xs.set i x)
  | [],i,x,h=>by simp at h
  | y::xs,0,x,h=>by
    simp only [splice,cells,List.flatMap_cons,Nat.zero_mul,List.take_zero,List.nil_append,Nat.zero_add,List.set_cons_zero]
    rw [List.drop_append,List.drop_of_length_le (by rw [W.len,W.len];omega),W.len,W.len,Nat.sub_self,List.drop_zero,List.nil_append]
  | y::xs,i+1,x,h=>by
    have ih:=cells_set xs i x (by simpa using h)
    simp only [splice,cells,List.flatMap_cons,List.set_cons_succ] at ih ⊢
    rw [← ih]
    have e1:(i+1)*k-k=i*k:=by rw [Nat.succ_mul];omega
    have e2:(i+1)*k+(e x).length-k=i*k+(e x).length:=by rw [Nat.succ_mul];omega
    rw [List.take_append,List.drop_append,List.take_of_length_le (by rw [W.len,Nat.succ_mul];omega),List.drop_of_length_le (by rw [W.len,W.len,Nat.succ_mul];omega),W.len,e1,List.nil_append]
    rw [W.len x] at e2 ⊢
    rw [e2];simp [List.append_assoc]
variable {S:Type}
theorem Hp.app [W:Wide k e] {oid yid yoff n m:Nat} {acc ys:List α} (h:Hp G0 G (rowE e oid acc::L)) (hy:Sl G e yid yoff ys) (hn:n=acc.length) (hm:m=ys.length) (hmost:acc.length+ys.length≤most) :
    ∃ oid' G',Hp G0 G' (rowE e oid' (acc++ys)::L)∧∀ (K:Nat×Nat×GH→Option S),
      ((if m=0 then some [] else G.lds yid yoff (m*k)).bind fun new=>guardK (decide (n+m≤most)) ((G.app oid 0 n k m new).bind K))=K (oid',0,G'):=by
  have hl:=hy.lds (n:=m) hm
  subst hn hm
  by_cases h0:ys.length=0
  · rw [List.length_eq_zero_iff.1 h0]
    refine ⟨oid,G,by simpa using h,fun K=>?_⟩
    rw [List.length_nil,if_pos rfl,Option.bind_some,guardD_of (by omega)]
    simp [GH.app]
  · by_cases hz:oid=0
    · subst hz
      have hacc:acc=[]:=by
        rcases h.ok _ (List.mem_cons_self ..) with ⟨_,b⟩ | ⟨_,b,_⟩
        · simp only [rowE,Obj.row.injEq,and_true] at b;exact cells_nil b
        · simp at b
      subst hacc
      refine ⟨G.next,G.alloc (.row (cells e ys) false),by simpa [rowE] using h.tl.alloc (.row (cells e ys) false),fun K=>?_⟩
      rw [hl,Option.bind_some,guardD_of hmost]
      unfold GH.app
      rw [if_neg h0,if_pos rfl,Option.bind_some]
    · obtain ⟨hb,hg⟩:=h.hd hz
      have h2:=(h.free hz).alloc (.row (cells e acc++cells e ys) false)
      rw [← cells_app] at h2
      refine ⟨_,_,h2,fun K=>?_⟩
      rw [hl,Option.bind_some,guardD_of hmost]
      unfold GH.app
      rw [if_neg h0,if_neg hz,own_row hg,Option.bind_some,if_pos (by rw [cells_len];omega),Option.bind_some,List.drop_zero,GH.next_set,cells_app]
theorem Hp.app1 [W:Wide k e] {oid n:Nat} {acc:List α} (h:Hp G0 G (rowE e oid acc::L)) (x:α) (hn:n=acc.length) (hmost:acc.length+1≤most) :
    ∃ oid' G',Hp G0 G' (rowE e oid' (acc++[x])::L)∧∀ (K:Nat×Nat×GH→Option S),
      ((if 1=0 then some [] else (G.alloc (.row (e x) false)).lds G.next 0 (1*k)).bind fun new=>guardK (decide (n+1≤most)) (((G.alloc (.row (e x) false)).app oid 0 n k 1 new).bind K))=K (oid',0,G'):=by
  have h1:=h.alloc (.row (e x) false)
  have hx:e x=cells e [x]:=by simp [cells]
  have s:Sl (G.alloc (.row (e x) false)) e G.next 0 [x]:=by
    right
    refine ⟨e x,row_row (h1.hd (by have:=h.wf.2;omega)).2,by rw [hx];omega,by rw [← hx,List.drop_zero,List.take_length]⟩
  have h2:Hp G0 (G.alloc (.row (e x) false)) (rowE e oid acc::(G.next,.row (e x) false)::L):=h1.perm (List.Perm.swap _ _ _)
  obtain ⟨oid',G',h3,key⟩:=h2.app (S:=S) s hn (m:=1) rfl (by simpa using hmost)
  exact ⟨oid',G',h3.sub ((List.sublist_cons_self _ _).cons_cons _),key⟩
end slices
section rows
variable {G G' G0:GH} {L R:List (Nat×Obj)} {S:Type}
theorem Hp.ld {id:Nat} {cs:List Cell} (h:Hp G0 G ((id,.row cs false)::L)) {off:Nat} (hid:id≠0):G.ld id off=cs[off]?:=ld_row (row_row (h.hd hid).2)
theorem Hp.sts {id:Nat} {cs new:List Cell} {off:Nat} (h:Hp G0 G ((id,.row cs false)::L)) (hid:id≠0) (hl:off+new.length≤cs.length) :
    ∃ G',Hp G0 G' ((id,.row (splice cs off new) false)::L)∧G.sts id off new=some G':=by
  refine ⟨_,h.set hid,?_⟩
  unfold GH.sts
  rw [own_row (h.hd hid).2,Option.bind_some,if_pos hl]
theorem Hp.put {α:Type} {k:Nat} {e:α→List Cell} [W:Wide k e] {id i:Nat} {xs:List α} (h:Hp G0 G (rowE e id xs::L)) (hi:i<xs.length) (x:α) {off:Nat} {new:List Cell} (ho:off=i*k) (hn:new=e x) :
    ∃ G',Hp G0 G' (rowE e id (xs.set i x)::L)∧G.sts id off new=some G':=by
  have hid:id≠0:=by
    rintro rfl
    rcases h.ok _ (List.mem_cons_self ..) with ⟨_,b⟩ | ⟨_,b,_⟩
    · simp only [rowE,Obj.row.injEq,and_true] at b;have:=cells_nil b;subst this;simp at hi
    · simp at b
  subst ho hn
  have hl:i*k+(e x).length≤(cells e xs).length:=by
    rw [W.len,cells_len]
    have:(i+1)*k≤xs.length*k:=Nat.mul_le_mul_right _ hi
    rw [Nat.succ_mul] at this;omega
  obtain ⟨G',h1,h2⟩:=Hp.sts h hid hl
  rw [cells_set xs i x hi] at h1
  exact ⟨G',h1,h2⟩
end rows
end Go.Proofs.D.S
/- What is asked for,and what there is,as the machine tells it. -/
set_option linter.unusedVariables false
namespace Go.Proofs.D.S
open Go Go.RowKit
theorem i64w (n:Int):IntKind.i64.wrap n=wrap64 n:=IntKind.wrap_i64 n
theorem wrap_id {a:Int} (h1:-9223372036854775808≤a) (h2:a≤9223372036854775807):wrap64 a=a:=wrap_in ⟨h1,h2⟩
theorem mx2_eq (a b:Int):mx2 a b=max a b:=by unfold mx2;omega
theorem mn2_eq (a b:Int):mn2 a b=min a b:=by unfold mn2;omega
theorem binD_quo {k:IntKind} {x y:Int} (h:y≠0):binD .quo k x y=some (k.wrap (x.tdiv y)):=by simp [binD,h]
theorem binD_rem {k:IntKind} {x y:Int} (h:y≠0):binD .rem k x y=some (x.tmod y):=by simp [binD,h]
structure Rw where
  (g la li pa bu se:Int)
structure Cf where
  (G N M L Pg P H Sd:Int)
abbrev rwC (r:Rw):List Cell:=[.int .i64 r.g,.int .i64 r.la,.int .i64 r.li,.int .i64 r.pa,.int .i64 r.bu,.int .i64 r.se]
abbrev cfC (c:Cf):List Cell:=[.int .i64 c.G,.int .i64 c.N,.int .i64 c.M,.int .i64 c.L,.int .i64 c.Pg,.int .i64 c.P,.int .i64 c.H,.int .i64 c.Sd]
def Rw.In (r:Rw):Prop:=InS r.g r.la r.li r.pa r.bu r.se
instance (r:Rw):Decidable r.In:=by unfold Rw.In;infer_instance
def cf0:Cf:=⟨0,0,0,0,0,0,0,0⟩
def cfOf (r:Rw):Cf:=⟨((2 ^ eG r.g:Nat):Int),((2 ^ eN r.g r.la:Nat):Int),mS r.g r.la r.li r.pa,lS r.g r.la,((2 ^ ePg r.g r.pa:Nat):Int),r.bu,hS r.g r.la r.li r.pa,r.se⟩
def ofC (r:Rw):Cf×Int:=if r.In then if hS r.g r.la r.li r.pa>65536 then (cf0,1) else (cfOf r,0) else (cf0,1)
def Cf.Ok (c:Cf):Prop:=CfOk c.G c.N c.M c.L c.Pg c.P c.H c.Sd
theorem ofC_ok {r:Rw} (h:(ofC r).2=0):(ofC r).1.Ok:=by
  have e:ofS r.g r.la r.li r.pa r.bu r.se=((ofC r).1.G,(ofC r).1.N,(ofC r).1.M,(ofC r).1.L,(ofC r).1.Pg,(ofC r).1.P,(ofC r).1.H,(ofC r).1.Sd,(ofC r).2):=by
    unfold ofS ofC
    by_cases h1:r.In
    · have h1':InS r.g r.la r.li r.pa r.bu r.se:=h1
      simp only [if_pos h1,if_pos h1']
      by_cases h2:hS r.g r.la r.li r.pa>65536
      · simp only [if_pos h2];rfl
      · simp only [if_neg h2];rfl
    · have h1':¬ InS r.g r.la r.li r.pa r.bu r.se:=h1
      simp only [if_neg h1,if_neg h1'];rfl
  have h3:(ofS r.g r.la r.li r.pa r.bu r.se).1≠0:=by
    unfold ofC at h
    unfold ofS
    by_cases h1:r.In
    · rw [if_pos h1] at h
      have h1':InS r.g r.la r.li r.pa r.bu r.se:=h1
      rw [if_pos h1']
      by_cases h2:hS r.g r.la r.li r.pa>65536
      · rw [if_pos h2] at h;simp at h
      · rw [if_neg h2]
        have:=Nat.two_pow_pos (eG r.g)
        show ((2 ^ eG r.g:Nat):Int)≠0
        omega
    · rw [if_neg h1] at h;simp at h
  have:=ofS_ok h3
  rw [e] at this
  exact this
def Cf.charge (c:Cf) (s a:Int):Int×Int:=chargeS c.G c.N s a
def Cf.ceil (c:Cf) (k:Int):Int:=ceilS c.M c.L k
abbrev eI (x:Int):List Cell:=[.int .i64 x]
abbrev eU8 (x:Int):List Cell:=[.int .u8 x]
abbrev eB (x:Bool):List Cell:=[.bool x]
instance:Wide 1 eI:=⟨fun _=>rfl,by decide⟩
instance:Wide 1 eU8:=⟨fun _=>rfl,by decide⟩
instance:Wide 1 eB:=⟨fun _=>rfl,by decide⟩
structure Blk where
  (at_ ch asked:Int)
deriving DecidableEq
structure OpV where
  (k p s a n b:Int)
deriving DecidableEq
structure AnsV where
  (err at_ n byte live peak mark pages:Int)
deriving DecidableEq
structure SpanV where
  (at_ n:Int)
deriving DecidableEq
abbrev eBlk (b:Blk):List Cell:=[.int .i64 b.at_,.int .i64 b.ch,.int .i64 b.asked]
abbrev eOp (o:OpV):List Cell:=[.int .i64 o.k,.int .i64 o.p,.int .i64 o.s,.int .i64 o.a,.int .i64 o.n,.int .u8 o.b]
abbrev eAns (a:AnsV):List Cell:=[.int .i64 a.err,.int .i64 a.at_,.int .i64 a.n,.int .u8 a.byte,.int .i64 a.live,.int .i64 a.peak,.int .i64 a.mark,.int .i64 a.pages]
abbrev eSpan (s:SpanV):List Cell:=[.int .i64 s.at_,.int .i64 s.n]
instance:Wide 3 eBlk:=⟨fun _=>rfl,by decide⟩
instance:Wide 6 eOp:=⟨fun _=>rfl,by decide⟩
instance:Wide 8 eAns:=⟨fun _=>rfl,by decide⟩
instance:Wide 2 eSpan:=⟨fun _=>rfl,by decide⟩
def Rd {α:Type} (G0:GH) (L:List (Nat×Obj)) (e:α→List Cell) (id off:Nat) (xs:List α):Prop:=∀ G,Hp G0 G L→Sl G e id off xs
section rd
variable {α:Type} {G0:GH} {L L':List (Nat×Obj)} {e:α→List Cell} {id off:Nat} {xs:List α} {k:Nat}
theorem Rd.old (h:Sl G0 e id off xs):Rd G0 L e id off xs:=fun _ H=>h.keep H
theorem Rd.own [Wide k e] (h:rowE e id xs∈L):Rd G0 L e id 0 xs:=fun _ H=>H.sl h
theorem Rd.cons (h:Rd G0 L e id off xs) {x:Nat×Obj}:Rd G0 (x::L) e id off xs:=fun _ H=>h _ H.tl
theorem Rd.sub (h:Rd G0 L e id off xs) (s:L.Sublist L'):Rd G0 L' e id off xs:=fun _ H=>h _ (H.sub s)
theorem Rd.perm (h:Rd G0 L e id off xs) (s:L'.Perm L):Rd G0 L' e id off xs:=fun _ H=>h _ (H.perm s)
theorem Rd.nil:Rd G0 L e id off ([]:List α):=fun _ _=>.inl rfl
end rd
def Bytes (l:List Int):Prop:=∀ x∈l,0≤x∧x≤255
theorem Cf.Ok.facts {c:Cf} (h:c.Ok):(1≤c.G∧c.G≤65536)∧(c.G≤c.N∧c.N≤65536)∧(2≤c.M∧c.M≤65536)∧(0≤c.L∧c.L≤16)∧(1≤c.Pg∧c.Pg≤65536)∧(1≤c.H∧c.H≤65536)∧(0≤c.P∧c.P≤65536)∧(0≤c.Sd∧c.Sd≤255)∧c.M≤c.H:=by
  obtain ⟨⟨g,l,p,q,e1,e2,e3,e4,e5,e6,e7,e8,e9⟩,h1,h2,h3,h4⟩:=h
  have z1:=Nat.two_pow_pos g
  have z2:2 ^ g≤2 ^ (g+l):=Nat.pow_le_pow_right (by decide) (by omega)
  have z3:=pow16 (e:=g+l) e8
  have z4:=Nat.two_pow_pos p
  have z5:=pow16 (e:=p) e9
  have z6:2≤q*2 ^ (max (g+l) p+1):=by
    have:=Nat.two_pow_pos (max (g+l) p)
    calc 2≤1*2 ^ (max (g+l) p+1):=by rw [Nat.pow_succ];omega
      _≤_:=Nat.mul_le_mul_right _ e6
  have z7:0≤c.L*(c.M / 2):=Int.mul_nonneg (by omega) (by omega)
  omega
theorem Cf.Ok.ceil {c:Cf} (h:c.Ok) {k:Int} (h0:0≤k) (h1:k≤c.L):c.ceil k=c.M+k*(c.M / 2)∧c.ceil k≤c.H∧c.M≤c.ceil k:=by
  have f:=h.facts
  have e:c.ceil k=c.M+k*(c.M / 2):=by unfold Cf.ceil ceilS;rw [if_neg (by omega),if_neg (by omega)]
  have h2:c.H=c.M+c.L*(c.M / 2):=h.hH
  have h3:k*(c.M / 2)≤c.L*(c.M / 2):=Int.mul_le_mul_of_nonneg_right h1 (by omega)
  have h4:0≤k*(c.M / 2):=Int.mul_nonneg h0 (by omega)
  omega
structure Cf.Ex (c:Cf) (g l:Nat):Prop where
  hG:c.G=((2 ^ g:Nat):Int)
  hN:c.N=((2 ^ (g+l):Nat):Int)
  hL:c.L=(l:Int)
  hgl:g+l≤16
theorem Cf.Ok.exs {c:Cf} (h:c.Ok):∃ g l,c.Ex g l:=by
  obtain ⟨⟨g,l,p,q,e1,e2,e3,e4,e5,e6,e7,e8,e9⟩,h1,h2,h3,h4⟩:=h
  exact ⟨g,l,e1,e2,e3,e8⟩
theorem chargeS_range {c:Cf} (h:c.Ok) (s a:Int):0≤(c.charge s a).1∧(c.charge s a).1≤c.N∧0≤(c.charge s a).2∧(c.charge s a).2≤4:=by
  obtain ⟨g,l,e⟩:=h.exs
  have f:=h.facts
  unfold Cf.charge chargeS
  by_cases h1:(logS a).2=false∨a>c.N
  · rw [if_pos h1];dsimp only;omega
  · rw [if_neg h1]
    by_cases h2:s<0∨s>c.N
    · rw [if_pos h2];dsimp only;omega
    · rw [if_neg h2]
      have h3:clog (max (max s a) c.G).toNat≤g+l:=clog_le (by have:=e.hN;have:=e.hG;omega)
      have h4:(2:Nat) ^ clog (max (max s a) c.G).toNat≤2 ^ (g+l):=Nat.pow_le_pow_right (by decide) h3
      have:=e.hN
      have z:=Nat.two_pow_pos (clog (max (max s a) c.G).toNat)
      dsimp only;omega
end Go.Proofs.D.S
/- What is read out of numbers,in small. -/
set_option linter.unusedVariables false
namespace Go.Proofs.D.S
open Go Go.RowKit
structure RawOk (b:Bool) (g la li pa bu se:Int):Prop where
  hg:1≤g∧g≤9
  hla:g≤la∧la≤108
  hli:1≤li∧li≤150
  hpa:1≤pa∧pa≤30
  hbt:b=true→bu=5000
  hbf:b=false→1≤bu∧bu≤20
  hse:0≤se∧se≤199

theorem RawOk.inS {b:Bool} {g la li pa bu se:Int} (h:RawOk b g la li pa bu se):InS g la li pa bu se:=by
  obtain ⟨⟨h1,h2⟩,⟨h3,h4⟩,⟨h5,h6⟩,⟨h7,h8⟩,h9,h10,h11,h12⟩:=h
  have hb:0≤bu∧bu≤65536:=by
    cases b with
    | true=>have:=h9 rfl;omega
    | false=>have:=h10 rfl;omega
  unfold InS;omega

theorem RawOk.small {b:Bool} {g la li pa bu se:Int} (h:RawOk b g la li pa bu se) :
    eG g≤4∧eN g la≤7∧ePg g pa≤5∧mS g la li pa≤406∧lS g la≤7∧hS g la li pa≤2000:=by
  have hin:=h.inS
  obtain ⟨⟨h1,h2⟩,⟨h3,h4⟩,⟨h5,h6⟩,⟨h7,h8⟩,h9,h10,h11,h12⟩:=h
  obtain ⟨⟨g1,g2⟩,⟨l1,l2⟩,⟨i1,i2⟩,⟨p1,p2⟩,hb,hs⟩:=hin
  have b0:eG g≤4:=clog_le (by omega)
  have b1:clog la.toNat≤7:=clog_le (by omega)
  have b2:clog pa.toNat≤5:=clog_le (by omega)
  have c1:eN g la≤7:=by unfold eN;omega
  have c2:ePg g pa≤5:=by unfold ePg;omega
  obtain ⟨a1,a2,a3,a4,a5⟩:=mS_facts (g:=g) (la:=la) (pa:=pa) i1 i2 g2 l2 p2
  have hw:wS g la pa≤256:=by
    unfold wS
    have:(2:Nat) ^ (max (eN g la) (ePg g pa)+1)≤2 ^ 8:=Nat.pow_le_pow_right (by decide) (by omega)
    omega
  have hl:lS g la≤7:=by unfold lS;omega
  have hl0:0≤lS g la:=by unfold lS;omega
  have c3:lS g la*(mS g la li pa / 2)≤7*203:=Int.mul_le_mul hl (by omega) (by omega) (by omega)
  refine ⟨b0,c1,c2,by omega,hl,?_⟩
  unfold hS;omega

theorem RawOk.ofC {b:Bool} {r:Rw} (h:RawOk b r.g r.la r.li r.pa r.bu r.se):ofC r=(cfOf r,0):=by
  have h1:r.In:=h.inS
  obtain ⟨_,_,_,_,_,h2⟩:=h.small
  unfold S.ofC
  rw [if_pos h1,if_neg (by omega)]
theorem RawOk.ok {b:Bool} {r:Rw} (h:RawOk b r.g r.la r.li r.pa r.bu r.se):(cfOf r).Ok:=by
  have h1:=ofC_ok (r:=r) (by rw [h.ofC])
  rw [h.ofC] at h1
  exact h1
structure Small (b:Bool) (g l p:Nat) (M P H Sd:Int):Prop where
  hg:g≤4
  hl:g+l≤7
  hp:g≤p∧p≤5
  hM:1≤M∧M≤406
  hMN:M % ((2 ^ (g+l+1):Nat):Int)=0
  hMP:M % ((2 ^ (p+1):Nat):Int)=0
  hH:H=M+(l:Int)*(M / 2)
  hH2:H≤2000
  hP:(b=true→P=5000)∧(b=false→1≤P∧P≤20)
  hSd:0≤Sd∧Sd≤199

theorem Small.q {b:Bool} {g l p:Nat} {M P H Sd:Int} (h:Small b g l p M P H Sd):∃ q:Nat,1≤q∧M=((q*2 ^ (g+l+1):Nat):Int):=by
  have hM:=h.hM
  have z1:=Nat.two_pow_pos (g+l+1)
  have hq:M=(((M / ((2 ^ (g+l+1):Nat):Int)).toNat*2 ^ (g+l+1):Nat):Int):=by
    have h1:=Int.mul_ediv_add_emod M ((2 ^ (g+l+1):Nat):Int)
    have h2:=h.hMN
    have h3:=Int.ediv_nonneg (a:=M) (b:=((2 ^ (g+l+1):Nat):Int)) (by omega) (by omega)
    rw [Int.natCast_mul,Int.toNat_of_nonneg h3,Int.mul_comm]
    omega
  refine ⟨_,?_,hq⟩
  generalize (M / ((2 ^ (g+l+1):Nat):Int)).toNat=q at hq
  rcases Nat.eq_zero_or_pos q with h | h
  · subst h;simp at hq;omega
  · exact h

theorem RawOk.small' {b:Bool} {g la li pa bu se:Int} (h:RawOk b g la li pa bu se) :
    ((2 ^ eN g la:Nat):Int)=((2 ^ (eG g+(eN g la-eG g)):Nat):Int)∧lS g la=((eN g la-eG g:Nat):Int)∧Small b (eG g) (eN g la-eG g) (ePg g pa) (mS g la li pa) bu (hS g la li pa) se:=by
  have hge:eG g≤eN g la:=by unfold eN;omega
  have hgp:eG g≤ePg g pa:=by unfold ePg;omega
  obtain ⟨s1,s2,s3,s4,s5,s6⟩:=h.small
  have hin:=h.inS
  obtain ⟨⟨g1,g2⟩,⟨l1,l2⟩,⟨i1,i2⟩,⟨p1,p2⟩,hb,hs⟩:=hin
  obtain ⟨a1,a2,a3,a4,a5⟩:=mS_facts (g:=g) (la:=la) (pa:=pa) i1 i2 g2 l2 p2
  have dv:∀ e:Nat,e≤max (eN g la) (ePg g pa)+1→mS g la li pa % ((2 ^ e:Nat):Int)=0:=by
    intro e he
    have h1:wS g la pa=((2 ^ e:Nat):Int)*((2 ^ (max (eN g la) (ePg g pa)+1-e):Nat):Int):=by
      unfold wS
      rw [← Int.natCast_mul,← Nat.pow_add,show e+(max (eN g la) (ePg g pa)+1-e)=max (eN g la) (ePg g pa)+1 by omega]
    have h2:((2 ^ e:Nat):Int) ∣ wS g la pa:=⟨_,h1⟩
    exact Int.emod_eq_zero_of_dvd (Int.dvd_trans h2 (Int.dvd_of_emod_eq_zero a3))
  refine ⟨by rw [show eG g+(eN g la-eG g)=eN g la by omega],rfl,s1,by omega,⟨hgp,s3⟩,⟨by omega,s4⟩,?_,dv _ (by omega),rfl,s6,⟨h.hbt,h.hbf⟩,h.hse⟩
  rw [show eG g+(eN g la-eG g)+1=eN g la+1 by omega]
  exact dv _ (by omega)


structure Cf.Small (b:Bool) (c:Cf) (g l p:Nat):Prop where
  ok:c.Ok
  hG:c.G=((2 ^ g:Nat):Int)
  hN:c.N=((2 ^ (g+l):Nat):Int)
  hL:c.L=(l:Int)
  hPg:c.Pg=((2 ^ p:Nat):Int)
  s:S.Small b g l p c.M c.P c.H c.Sd
theorem RawOk.cfSmall {b:Bool} {r:Rw} (h:RawOk b r.g r.la r.li r.pa r.bu r.se):∃ g l p,(cfOf r).Small b g l p:=by
  obtain ⟨e1,e2,s⟩:=h.small'
  exact ⟨_,_,_,h.ok,rfl,e1,e2,rfl,s⟩
end Go.Proofs.D.S
/- What a law begins with: rows that stay. -/
set_option linter.unusedVariables false
namespace Go.Proofs.D.S
open Go Go.RowKit
def put1 (G:GH) (o:Option (List Cell)):GH:={ tree:=G.tree.set (G.next+1) G.next (o.map fun cs=>.row cs true),next:=G.next+1 }
def GE:GH:=⟨.e,1⟩
def Beg (G:GH):Prop:=∃ a b c,G=put1 (put1 (put1 GE a) b) c
def Fz (G:GH):Prop:=G.wf∧∀ id o,G.get id=some o→∃ cs,o = .row cs true
theorem put1_get (G:GH) (o:Option (List Cell)) (j:Nat):(put1 G o).get j=if j=G.next then o.map (fun cs=>.row cs true) else G.get j:=Tr.get_set _ _ _ _ _ (Nat.lt_succ_self _)
theorem Fz.row {G:GH} (z:Fz G) {id:Nat} {cs:List Cell} (h:G.row id=some cs):G.get id=some (.row cs true):=by
  obtain ⟨o,hg,ho⟩:=row_get h
  obtain ⟨cs',rfl⟩:=z.2 _ _ hg
  rcases ho with h | ⟨fz,h⟩ <;> cases h
  exact hg
theorem Fz.put1 {G:GH} (h:Fz G) (o:Option (List Cell)):Fz (put1 G o):=by
  refine ⟨⟨fun id hid=>?_,by have:=h.1.2;show 1≤G.next+1;omega⟩,fun id x hx=>?_⟩
  · have hid:G.next+1≤id:=hid
    rw [put1_get,if_neg (by omega)];exact h.1.1 id (by omega)
  · rw [put1_get] at hx
    split at hx
    · cases o with
      | none=>cases hx
      | some cs=>cases hx;exact ⟨_,rfl⟩
    · exact h.2 id x hx
theorem Beg.fz {G:GH} (h:Beg G):Fz G:=by
  obtain ⟨a,b,c,rfl⟩:=h
  exact (((show Fz GE from ⟨⟨fun id _=>by unfold GH.get GE;rfl,Nat.le_refl _⟩,fun id o h=>by unfold GH.get GE at h;cases h⟩).put1 a).put1 b).put1 c
def OkT (x:Option Res):Prop:=∃ G',x=some ([.c (.bool true)],G')
structure From (G G':GH):Prop where
  wf:G'.wf
  sl:∀ {α:Type} (e:α→List Cell) (id off:Nat) (xs:List α),Sl G e id off xs→Sl G' e id off xs
theorem Beg.frz {G G':GH} (h:Beg G) (f:Frz G G'):From G G':=by
  have z:=h.fz
  refine ⟨(f.1 z.1).1,fun e id off xs s=>?_⟩
  rcases s with s | ⟨cs,a,b,c⟩
  · exact .inl s
  · exact .inr ⟨cs,row_row (f.2 z.1 _ _ (z.row a)),b,c⟩
theorem Beg.wf {G:GH} (h:Beg G):G.wf:=h.fz.1
theorem beg_run {T:Nat→Option (Nat×DFn)} {f:Nat} (n:Nat) {vs:List V1} (h0:∀ a b c,(callD T n f [] (put1 (put1 (put1 GE a) b) c)).map Prod.fst=some vs)
    {G:GH} (hG:Beg G):∃ G',callW T f [] G=some (vs,G')∧From G G':=by
  have key:(callD T n f [] G).map Prod.fst=some vs:=by
    obtain ⟨a,b,c,rfl⟩:=hG
    exact h0 a b c
  obtain ⟨⟨vs',G'⟩,h,e⟩:=Option.map_eq_some_iff.1 key
  cases e
  have:=callW_of h
  exact ⟨G',this,hG.frz (callW_frz this)⟩
end Go.Proofs.D.S
/- A call of the small machine,told of the model's world,for the given rows. -/
set_option linter.unusedVariables false
namespace Go.Proofs.D
open Go Go.RowKit Go.ChangeShapes Go.WideShapes
open Go.Proofs.D.S (put1 GE put1_get)
structure FzRow (W:World) (cs:List Cell) (L:Loc):Prop where
  ex:∃ c e r,W.heap[L.blk]? = some (.cells c e r)∧L.sh+cs.length≤L.lim∧L.lim≤c.size∧∀ (φ:Phi) i x,cs[i]? = some x→∃ v,c[L.sh+i]? = some v∧CRel φ x v
structure Start (W:World) (φ:Phi) (G:GH):Prop where
  H:HRel W.heap.size φ G.get W
  wf:G.wf
  fresh:∀ id,G.next≤id→φ id=none
  no:∀ id o,G.get id=some o→o.own=false
theorem GE_get (id:Nat):GE.get id=none:=by unfold GH.get GE;rfl
theorem Start.nil (W:World):Start W (fun _=>none) GE :=
  ⟨⟨rfl,fun id o h=>(by rw [GE_get] at h;cases h),fun i j oi oj L M h=>(by rw [GE_get] at h;cases h)⟩,⟨fun id _=>GE_get id,Nat.le_refl _⟩,fun _ _=>rfl,fun id o h=>(by rw [GE_get] at h;cases h)⟩
theorem Start.row {W:World} {φ:Phi} {G:GH} (s:Start W φ G) {cs:List Cell} {L:Loc} (f:FzRow W cs L):Start W (φ.put G.next L) (G.alloc (.row cs true)):=by
  obtain ⟨c,e,r,h1,h2,h3,h4⟩:=f.ex
  have hlt:L.blk<W.heap.size:=(Array.getElem?_eq_some_iff.1 h1).1
  have le:=Phi.le_put (φ:=φ) L (s.fresh G.next (Nat.le_refl _))
  have get:∀ id,(G.alloc (.row cs true)).get id=if id=G.next then some (.row cs true) else G.get id:=fun id=>GH.get_alloc G id _
  refine ⟨⟨?_,fun id o h=>?_,fun i j oi oj L M hi hj ki kj _ _ _=>?_⟩,wf_alloc s.wf _,fun id hid=>?_,fun id o h=>?_⟩
  · rw [get,if_neg (by have:=s.wf.2;omega)];exact s.H.zero
  · rw [get] at h
    split at h
    · rename_i e1;subst e1;cases h
      exact ⟨L,Phi.put_self _ _ _,c,e,r,h1,h2,h3,fun i x hx=>h4 _ i x hx,fun h=>(by cases h),fun _=>hlt⟩
    · obtain ⟨M,hM,k⟩:=s.H.obj id o h
      exact ⟨M,le _ _ hM,k.keep le rfl⟩
  · exfalso
    rw [get] at hi
    split at hi
    · cases hi;simp [Obj.own] at ki
    · rw [s.no _ _ hi] at ki;cases ki
  · rw [GH.next_alloc] at hid
    unfold Phi.put;rw [if_neg (by omega)];exact s.fresh id (by omega)
  · rw [get] at h
    split at h
    · cases h;rfl
    · exact s.no _ _ h
theorem Start.room {W:World} {φ:Phi} {G:GH} (s:Start W φ G) (L:Option Loc):Start W (match L with | some L=>φ.put G.next L | none=>φ) (put1 G none):=by
  have fr:=s.fresh G.next (Nat.le_refl _)
  have get:∀ id,(put1 G none).get id=if id=G.next then none else G.get id:=fun id=>put1_get G none id
  have get2:∀ id o,(put1 G none).get id=some o→G.get id=some o:=fun id o h=>by
    rw [get] at h
    split at h
    · cases h
    · exact h
  have H2:HRel W.heap.size φ (put1 G none).get W:=s.H.restrict get2
  have wf2:(put1 G none).wf:=⟨fun id hid=>by
    have hid:G.next+1≤id:=hid
    rw [get,if_neg (by omega)];exact s.wf.1 id (by omega),by show 1≤G.next+1;omega⟩
  cases L with
  | none=>exact ⟨H2,wf2,fun id hid=>s.fresh id (Nat.le_trans (Nat.le_succ _) hid),fun id o h=>s.no id o (get2 id o h)⟩
  | some L =>
    have le:=Phi.le_put (φ:=φ) L fr
    refine ⟨H2.keep le fun _ _ _ _ _=>rfl,wf2,fun id hid=>?_,fun id o h=>s.no id o (get2 id o h)⟩
    have hid:G.next+1≤id:=hid
    show Phi.put φ G.next L id=none
    unfold Phi.put;rw [if_neg (by omega)];exact s.fresh id (by omega)
theorem Start.room0 {W:World} {φ:Phi} {G:GH} (s:Start W φ G):Start W φ (put1 G none):=s.room none
theorem cell_add {W:World} {x:Addr} (hx:x.spot=none) (i:Nat) {v:Value} (h:W.cell? (x.add i)=some v):∃ c e r,W.heap[x.block]? = some (.cells c e r)∧c[x.off+i]? = some v:=by
  have e1:x.add i = ⟨x.block,x.off+i,none⟩:=by
    unfold Addr.add
    split
    · rename_i e;subst e;cases x;simp at hx;subst hx;rfl
    · rfl
  rw [e1] at h
  unfold World.cell? at h
  split at h
  · rename_i c e r hh;exact ⟨c,e,r,hh,by simpa using h⟩
  · cases h
def IsArg (W:World) (a:Option Addr) (n cap es:Nat) (cs:List Cell):Prop :=
  (a=none∧n=0∧cap=0∧cs=[])∨∃ x,a=some x∧x.spot=none∧n≤cap∧cs.length=n*es∧(∀ i,i<cap*es→∃ v,W.cell? (x.add i)=some v)∧∀ i c,cs[i]? = some c→∃ v,W.cell? (x.add i)=some v∧∀ φ,CRel φ c v
theorem Start.arg {W:World} {φ:Phi} {G:GH} (s:Start W φ G) {a:Option Addr} {n cap es:Nat} {cs:List Cell} (h:IsArg W a n cap es cs) :
    ∃ φ' id o,Start W φ' (put1 G o)∧φ.le φ'∧V1Rel φ' (.c (.sl es id 0 n)) (.slice a n cap)∧(cs=[]∨(put1 G o).row id=some cs):=by
  rcases h with ⟨rfl,rfl,rfl,rfl⟩ | ⟨x,rfl,hsp,hn,hl,hcap,hcs⟩
  · exact ⟨φ,0,none,s.room none,.refl _,.inl ⟨rfl,rfl,rfl,rfl⟩,.inl rfl⟩
  · have fr:=s.fresh G.next (Nat.le_refl _)
    have le:=Phi.le_put (φ:=φ) ⟨x.block,x.off,x.off+cap*es⟩ fr
    have e0:x = ⟨x.block,x.off,none⟩:=by cases x;simp at hsp;subst hsp;rfl
    have v1:V1Rel (φ.put G.next ⟨x.block,x.off,x.off+cap*es⟩) (.c (.sl es G.next 0 n)) (.slice (some x) n cap):=by
      refine .inr ⟨by have:=s.wf.2;omega,⟨x.block,x.off,x.off+cap*es⟩,x.off,cap,Phi.put_self _ _ _,by rw [← e0],hn,.inl ⟨rfl,rfl⟩⟩
    by_cases hnil:cs=[]
    · exact ⟨_,G.next,none,s.room (some ⟨x.block,x.off,x.off+cap*es⟩),le,v1,.inl hnil⟩
    · have hpos:0<cs.length:=by cases cs with | nil=>exact absurd rfl hnil | cons=>simp
      have hle:n*es≤cap*es:=Nat.mul_le_mul_right _ hn
      obtain ⟨v,hv,_⟩:=hcs 0 _ (List.getElem?_eq_getElem hpos)
      obtain ⟨c,e,r,hh,_⟩:=cell_add hsp 0 hv
      obtain ⟨u,hu⟩:=hcap (cap*es-1) (by omega)
      obtain ⟨c',e',r',hh',hu'⟩:=cell_add hsp _ hu
      rw [hh] at hh';cases hh'
      have hsz:=(Array.getElem?_eq_some_iff.1 hu').1
      refine ⟨_,G.next,some cs,s.row (cs:=cs) (L:=⟨x.block,x.off,x.off+cap*es⟩) ⟨c,e,r,hh,by dsimp only;omega,by dsimp only;omega,fun φ i y hy=>?_⟩,le,v1,.inr ?_⟩
      · obtain ⟨v,hv,hr⟩:=hcs i y hy
        obtain ⟨c',e',r',hh',hv'⟩:=cell_add hsp i hv
        rw [hh] at hh';cases hh'
        exact ⟨v,hv',hr φ⟩
      · unfold GH.row;rw [put1_get,if_pos rfl];rfl
theorem arg_ints {H:Type} {enc:TypeId×Value→H} {P:Program} {W:World} {base:Nat} {held:Bool} {t e:TypeId} {k:IntKind} {v:Value} {d:DataW H} {p:List MemPlace}
    (ht:P.underlying t=some (.slice e)) (he:P.underlying e=some (.int k)) (hc:P.cellsOf e=1) (hv:Value.okWide P W .any base t v) (h:DataW.Trod enc P W 0 (fun _=>true) held t v d p) :
    ∃ a n cap zs,v = .slice a n cap∧IsArg W a n cap 1 (S.cells (fun x=>[Cell.int k x]) zs)∧zs.length=n∧∀ x∈zs,(Lit.int k x).wf=true:=by
  obtain ⟨a,n,cap,rfl⟩:=okWide_slice ht hv
  have hsp:∀ x,a=some x→x.spot=none:=by
    rintro x rfl
    simp only [Value.okWide,ht,Cell.okWide,Cell.ok] at hv
    exact hv.2.2.2.1
  obtain ⟨fuel,hf⟩:=h
  rcases open_ints ht he hc hf with ⟨hcs,_⟩ | ⟨x,l,c,zs,hcs,_,hl,hm,hz,_,hcell,hwz⟩
  · simp [Value.cells] at hcs
    obtain ⟨rfl,rfl,rfl⟩:=hcs
    exact ⟨_,_,_,[],rfl,.inl ⟨rfl,rfl,rfl,rfl⟩,rfl,by simp⟩
  · simp [Value.cells] at hcs
    obtain ⟨rfl,rfl,rfl⟩:=hcs
    have hz:zs.length=cap:=by simpa using hz
    have hlen:(zs.take n).length=n:=by rw [List.length_take];omega
    refine ⟨_,_,_,zs.take n,rfl,.inr ⟨x,rfl,hsp x rfl,hl,?_,fun i hi=>⟨_,hcell i (by omega)⟩,fun i y hy=>?_⟩,hlen,fun y hy=>hwz y (List.mem_of_mem_take hy)⟩
    · rw [show (S.cells (fun x=>[Cell.int k x]) (zs.take n))=(zs.take n).map (Cell.int k) by rw [S.cells,← List.map_eq_flatMap],List.length_map,hlen];omega
    · rw [show (S.cells (fun x=>[Cell.int k x]) (zs.take n))=(zs.take n).map (Cell.int k) by rw [S.cells,← List.map_eq_flatMap],List.getElem?_map] at hy
      obtain ⟨q,hq,rfl⟩:=Option.map_eq_some_iff.1 hy
      have hi:=(List.getElem?_eq_some_iff.1 hq).1
      rw [List.length_take] at hi
      rw [List.getElem?_take,if_pos (by omega)] at hq
      refine ⟨_,hcell i (by omega),fun φ=>?_⟩
      rw [List.getD_eq_getElem?_getD,hq];rfl
theorem arg_keep {G:GH} {o:Option (List Cell)} {id:Nat} {cs:List Cell} (w:G.wf) (h:cs=[]∨G.row id=some cs):cs=[]∨(put1 G o).row id=some cs:=by
  rcases h with h | h
  · exact .inl h
  · right
    have:=S.row_lt w h
    exact S.row_cong h (by rw [put1_get,if_neg (by omega)])
theorem wf8 {a:Int} (h:(Lit.int .u8 a).wf=true):0≤a∧a≤255:=by
  simp [Lit.wf,IntKind.min,IntKind.max,IntKind.signed,IntKind.bits] at h
  omega
theorem bytes_of {l:List Int} (h:∀ x∈l,(Lit.int .u8 x).wf=true):S.Bytes l:=fun x hx=>wf8 (h x hx)
theorem arg_sl {α:Type} {G:GH} {e:α→List Cell} {id:Nat} {xs:List α} (h:S.cells e xs=[]∨G.row id=some (S.cells e xs)) (h0:S.cells e xs=[]→xs=[]):S.Sl G e id 0 xs:=by
  rcases h with h | h
  · exact .inl (h0 h)
  · exact .inr ⟨_,h,by omega,by rw [List.drop_zero,List.take_length]⟩
theorem Start.calls {P:Program} {T:Nat→Option (Nat×DFn)} {W:World} {φ:Phi} {G G':GH} (s:Start W φ G) (hmix:P.follows .mixedOrders=true) (hT:∀ f p d,T f=some (p,d)→OkF P f p d) {f:Nat} {args:List V1} {argv:Array Value}
    (ra:R2 (V1Rel φ) args argv.toList) (h:callW T f args G=some ([.c (.bool true)],G')):Calls P f argv W fun e W'=>e = .returned (.bool true)∧Below W.heap.size W W':=by
  obtain ⟨n,h⟩:=callW_some.1 h
  refine ((callD_sound (base:=W.heap.size) hmix hT n _ _ _ _ _ h).2 φ W argv s.H s.wf (Nat.le_refl _) (fun id a _=>s.fresh id a) ra).mono fun e W' ⟨φ',v,he,hv,g⟩=>?_
  have hv:v = .bool true:=hv
  subst hv
  refine ⟨he,g.os,g.tape,g.output,g.sz,fun b hb=>g.keep b hb ?_⟩
  rintro ⟨id,o,L,h1,h2,_⟩
  rw [s.no id o h1] at h2;cases h2
end Go.Proofs.D
