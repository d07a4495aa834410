/- Texts of the proof (DBytes, DRows, LawTopBytes); no condition. -/
import Derived.Test.YtogdeblppihbnaaTopBytesj
import Derived.Test.YtogdeblppihbnaaTopBytesi
set_option linter.unusedSimpArgs false
set_option linter.unusedVariables false
/- What a modest client's bytes become;and rows that are the law's own. -/
set_option linter.unusedVariables false
namespace Go.Proofs.D.S
open Go Go.RowKit
variable {g l u:Nat}
theorem apart_rest {l:List Blk} (s:Srt l) {A:Nat} (hA:A<l.length) {b:Blk} (h:b∈l.take A++l.drop (A+1)):b.at_+b.ch≤l[A].at_∨l[A].at_+l[A].ch≤b.at_:=by
  rcases List.mem_append.1 h with h | h
  · obtain ⟨i,hi,e⟩:=List.getElem_of_mem h
    rw [List.length_take] at hi
    rw [List.getElem_take] at e
    have:=List.pairwise_iff_getElem.1 s i A (by omega) hA (by omega)
    rw [e] at this
    exact .inl this
  · obtain ⟨i,hi,e⟩:=List.getElem_of_mem h
    rw [List.length_drop] at hi
    rw [List.getElem_drop] at e
    have:=List.pairwise_iff_getElem.1 s A (A+1+i) hA (by omega) (by omega)
    rw [e] at this
    exact .inr this
theorem asks_get {c:Cf} {f f':Fa} {n s:Int} (e:f.asks c n s=some f') (p:Int):aGet f'.held p=if p=n then some s else aGet f.held p:=by
  unfold Fa.asks at e
  split at e
  · cases e;exact aGet_put _ _ _ _
  · cases e
theorem goes_get {c:Cf} {f f':Fa} {i q:Int} (iv:FInv c f i) (e:f.goes q=some f'):(∃ s0,aGet f.held q=some s0)∧∀ p,aGet f'.held p=if p=q then none else aGet f.held p:=by
  obtain ⟨_,s,k1,k2,_,_⟩:=iv.goes e
  exact ⟨⟨s,k1⟩,fun p=>by rw [k2,aGet_del iv.nd]⟩
theorem does_held {c:Cf} {f f':Fa} {i:Int} (iv:FInv c f i) {o:OpV} (e:f.does c i o=some f') :
    (∀ p s,aGet f'.held p=some s→p≠i→aGet f.held p=some s∧(o.k=4∨o.k=5→p≠o.p)) ∧
    (∀ s,aGet f'.held i=some s→(o.k=1∧s=o.s)∨(o.k=2∧productS c.N o.n o.s=(s,0))∨(o.k=4∧s=o.s)) ∧
    (o.k=4∨o.k=6∨o.k=7∨o.k=8→∃ s0,aGet f.held o.p=some s0∧(o.k=7∨o.k=8→0≤o.n∧o.n<s0))∧1≤o.k∧o.k≤10∧o.k≠3∧(o.k=2→(productS c.N o.n o.s).2=0):=by
  have same:f' = f→(∀ p s,aGet f'.held p=some s→p≠i→aGet f.held p=some s∧(o.k=4∨o.k=5→p≠o.p))∨(o.k=4∨o.k=5):=by
    rintro rfl
    by_cases h:o.k=4∨o.k=5
    · exact .inr h
    · exact .inl fun p s hp _=>⟨hp,fun k=>absurd k h⟩
  have none':f' = f→∀ s,aGet f'.held i=some s→(o.k=1∧s=o.s)∨(o.k=2∧productS c.N o.n o.s=(s,0))∨(o.k=4∧s=o.s):=by
    rintro rfl s hs
    rw [iv.free] at hs;cases hs
  unfold Fa.does at e
  by_cases k1:o.k=1
  · rw [if_pos k1] at e
    have q:=asks_get e
    refine ⟨fun p s hp hi=>?_,fun s hs=>?_,by omega,by omega,by omega,by omega,by omega⟩
    · rw [q,if_neg hi] at hp;exact ⟨hp,by omega⟩
    · rw [q,if_pos rfl] at hs;cases hs;exact .inl ⟨k1,rfl⟩
  rw [if_neg k1] at e
  by_cases k2:o.k=2
  · rw [if_pos k2] at e
    split at e
    · rename_i hz
      have q:=asks_get e
      refine ⟨fun p s hp hi=>?_,fun s hs=>?_,by omega,by omega,by omega,by omega,fun _=>hz⟩
      · rw [q,if_neg hi] at hp;exact ⟨hp,by omega⟩
      · rw [q,if_pos rfl] at hs;cases hs;exact .inr (.inl ⟨k2,Prod.ext rfl hz⟩)
    · cases e
  rw [if_neg k2] at e
  by_cases k4:o.k=4
  · rw [if_pos k4] at e
    obtain ⟨f1,g1,g2⟩:=Option.bind_eq_some_iff.1 e
    obtain ⟨⟨s0,hs0⟩,w⟩:=goes_get iv g1
    have q:=asks_get g2
    refine ⟨fun p s hp hi=>?_,fun s hs=>?_,fun _=>⟨s0,hs0,by omega⟩,by omega,by omega,by omega,by omega⟩
    · rw [q,if_neg hi,w] at hp
      split at hp
      · cases hp
      · rename_i hne;exact ⟨hp,fun _=>hne⟩
    · rw [q,if_pos rfl] at hs;cases hs;exact .inr (.inr ⟨k4,rfl⟩)
  rw [if_neg k4] at e
  by_cases k5:o.k=5
  · rw [if_pos k5] at e
    obtain ⟨_,w⟩:=goes_get iv e
    refine ⟨fun p s hp hi=>?_,fun s hs=>?_,by omega,by omega,by omega,by omega,by omega⟩
    · rw [w] at hp
      split at hp
      · cases hp
      · rename_i hne;exact ⟨hp,fun _=>hne⟩
    · rw [w,iv.free] at hs
      split at hs <;> cases hs
  rw [if_neg k5] at e
  by_cases k6:o.k=6
  · rw [if_pos k6] at e
    split at e
    · rename_i hs
      obtain ⟨s,hs⟩:=Option.isSome_iff_exists.1 hs
      have e:f' = f:=by cases e;rfl
      exact ⟨(same e).resolve_right (by omega),none' e,fun _=>⟨s,hs,by omega⟩,by omega,by omega,by omega,by omega⟩
    · cases e
  rw [if_neg k6] at e
  by_cases k7:o.k=7∨o.k=8
  · rw [if_pos k7] at e
    cases hq:aGet f.held o.p with
    | none=>rw [hq] at e;cases e
    | some s =>
      rw [hq] at e
      dsimp only at e
      split at e
      · rename_i hs
        have e:f' = f:=by cases e;rfl
        exact ⟨(same e).resolve_right (by omega),none' e,fun _=>⟨s,rfl,fun _=>hs⟩,by omega,by omega,by omega,by omega⟩
      · cases e
  rw [if_neg k7] at e
  split at e
  · have e:f' = f:=by cases e;rfl
    exact ⟨(same e).resolve_right (by omega),none' e,by omega,by omega,by omega,by omega,by omega⟩
  · cases e
theorem FRel.bytes {C:Cf} (tp:C.Tp g l u) (hP:C.H≤C.P) {m:Mod} {f f':Fa} {i:Int} {ats:Int→Int} (hi:0≤i) (r:FRel g l u C m f i ats) (iv:Inv m) {o:OpV} (e:f.does C i o=some f') :
    ∀ p s,aGet f'.held p=some s→p≠i→∀ x,0≤x→x<(chargeS C.G C.N s 1).1→byteAt (doM m (opAt ats o)).1 (ats p) x=if o.k=8∧p=o.p∧x=o.n then o.b else byteAt m (ats p) x:=by
  intro p s hp hpi x x0 x1
  obtain ⟨er,_,_⟩:=r.step tp hP hi e
  obtain ⟨h1,h2,h3,_,_,h6,_⟩:=does_held r.inv e
  obtain ⟨hp0,hpo⟩:=h1 p s hp hpi
  obtain ⟨B,hB,fB,eB⟩:=r.find hp0
  have mB:m.bl[B]∈m.bl:=List.getElem_mem hB
  have kq:(opAt ats o).k=o.k:=by unfold opAt;split <;> rfl
  rcases doM_cases m (opAt ats o) with ⟨k,ed⟩ | ⟨k,ed⟩ | ⟨k,ed⟩ | ⟨k,A,hA,fA,aA,ed⟩ | h
  · rw [kq] at k
    rw [if_neg (by omega)]
    rw [ed] at er ⊢
    obtain ⟨_,_,⟨_,pl⟩,_⟩:=give_out iv (opAt ats o) (by rw [kq];exact k) er
    have:=pl.keep _ mB (iv.on _ mB) x x0 (by rw [eB];exact x1)
    rw [eB] at this
    exact this
  · rw [kq] at k
    rw [if_neg (by omega),ed];rfl
  · rw [kq] at k
    rw [if_neg (by omega),ed]
  · rw [kq] at k
    have eo:opAt ats o = { o with p:=ats o.p }:=by unfold opAt;rw [if_pos (by omega)]
    have eq:∃ s0,aGet f.held o.p=some s0∨o.k=5:=by
      by_cases k5:o.k=5
      · exact ⟨0,.inr k5⟩
      · obtain ⟨s0,hs0,_⟩:=h3 (by omega)
        exact ⟨s0,.inl hs0⟩
    by_cases k4:o.k=4
    · rw [if_neg (by omega)]
      rw [ed] at er ⊢
      obtain ⟨s0,hs0,_⟩:=h3 (by omega)
      obtain ⟨A2,hA2,fA2,eA2⟩:=r.find hs0
      have:A=A2:=by
        rw [eo] at fA
        rw [fA2] at fA;cases fA;rfl
      subst this
      obtain ⟨_,_,⟨_,pl⟩,_⟩:=realloc_out iv (opAt ats o) hA (by rw [kq];exact k4) er
      have gd:=h1 p s hp hpi
      have goe:f.goes o.p=some ⟨aDel f.held o.p,f.all-s0⟩:=by unfold Fa.goes;rw [hs0];rfl
      obtain ⟨inv1,s1,g1,g2,g3,g4⟩:=r.inv.goes goe
      have rp:=r.rest hA (by rw [hs0] at g1;cases g1;exact eA2) g4
      have hin:aGet (aDel f.held o.p) p=some s:=by rw [aGet_del r.inv.nd,if_neg (gd.2 (.inl k4))];exact hp0
      have mr:(⟨ats p,(chargeS C.G C.N s 1).1,s⟩:Blk)∈m.bl.take A++m.bl.drop (A+1):=rp.mem_iff.2 (List.mem_map.2 ⟨(p,s),aGet_mem hin,rfl⟩)
      exact pl.keep _ mr (iv.on _ (mem_rest mr)) x x0 x1
    · rcases ofM_cases m (opAt ats o) A m.bl[A] (by rw [kq];omega) with ⟨k5,ee⟩ | ⟨k5,ee⟩ | ⟨k5,_,ee⟩ | ⟨k5,hn,ee⟩ | h
      · rw [kq] at k5
        rw [if_neg (by omega),ed,ee];rfl
      · rw [kq] at k5
        rw [if_neg (by omega),ed,ee]
      · rw [kq] at k5
        rw [if_neg (by omega),ed,ee]
      · rw [kq] at k5
        obtain ⟨s0,hs0,hn0⟩:=h3 (by omega)
        obtain ⟨A2,hA2,fA2,eA2⟩:=r.find hs0
        have:A=A2:=by
          rw [eo] at fA
          rw [fA2] at fA;cases fA;rfl
        subst this
        have bA:=iv.ok.bl _ (List.getElem_mem hA)
        have bB:=iv.ok.bl _ mB
        rw [ed,ee]
        rw [eo] at hn ⊢
        rw [eA2] at hn bA ⊢
        rw [eB] at bB
        dsimp only at hn bA bB ⊢
        have hml:=iv.ok.mem
        unfold byteAt
        dsimp only
        rw [set_getD (by omega)]
        by_cases hpp:p=o.p
        · subst hpp
          by_cases hx:x=o.n
          · rw [if_pos (by rw [hx]),if_pos ⟨k5,rfl,hx⟩]
          · rw [if_neg (by omega),if_neg (fun h=>hx h.2.2)]
        · rw [if_neg (fun h:o.k=8∧p=o.p∧x=o.n=>hpp h.2.1),if_neg]
          have goe:f.goes o.p=some ⟨aDel f.held o.p,f.all-s0⟩:=by unfold Fa.goes;rw [hs0];rfl
          obtain ⟨inv1,s1,g1,g2,g3,g4⟩:=r.inv.goes goe
          have rp:=r.rest hA (by rw [hs0] at g1;cases g1;exact eA2) g4
          have hin:aGet (aDel f.held o.p) p=some s:=by rw [aGet_del r.inv.nd,if_neg hpp];exact hp0
          have mr:(⟨ats p,(chargeS C.G C.N s 1).1,s⟩:Blk)∈m.bl.take A++m.bl.drop (A+1):=rp.mem_iff.2 (List.mem_map.2 ⟨(p,s),aGet_mem hin,rfl⟩)
          have:=apart_rest iv.srt hA mr
          rw [eA2] at this
          dsimp only at this
          omega
      · rw [ed] at er;exact absurd er h
  · exact absurd er h
theorem FRel.zero_bytes {C:Cf} (tp:C.Tp g l u) (hP:C.H≤C.P) {m:Mod} {f f':Fa} {i:Int} {ats:Int→Int} (hi:0≤i) (r:FRel g l u C m f i ats) (iv:Inv m) {o:OpV} (e:f.does C i o=some f') (k2:o.k=2) :
    ∀ x,0≤x→x<(chargeS C.G C.N (productS C.N o.n o.s).1 1).1→byteAt (doM m (opAt ats o)).1 (doM m (opAt ats o)).2.at_ x=0:=by
  intro x x0 x1
  obtain ⟨er,_,_⟩:=r.step tp hP hi e
  have eo:opAt ats o=o:=by unfold opAt;rw [if_neg (by omega)]
  rw [eo] at er ⊢
  rw [doM_give (.inr (.inl k2))] at er ⊢
  obtain ⟨_,_,_,z⟩:=give_out iv o (.inr (.inl k2)) er
  refine z k2 x x0 ?_
  unfold chargeO
  rw [if_pos k2,r.c];exact x1
theorem FRel.move_bytes {C:Cf} (tp:C.Tp g l u) (hP:C.H≤C.P) {m:Mod} {f f':Fa} {i:Int} {ats:Int→Int} (hi:0≤i) (r:FRel g l u C m f i ats) (iv:Inv m) {o:OpV} (e:f.does C i o=some f') (k4:o.k=4) {s0:Int} (hs0:aGet f.held o.p=some s0) :
    ∀ x,0≤x→x<(chargeS C.G C.N o.s 1).1→x<(chargeS C.G C.N s0 1).1→byteAt (doM m (opAt ats o)).1 (doM m (opAt ats o)).2.at_ x=byteAt m (ats o.p) x:=by
  intro x x0 x1 x2
  obtain ⟨er,_,_⟩:=r.step tp hP hi e
  obtain ⟨A,hA,fA,eA⟩:=r.find hs0
  have eo:opAt ats o = { o with p:=ats o.p }:=by unfold opAt;rw [if_pos (by omega)]
  have ed:doM m (opAt ats o)=ofM m (opAt ats o) A m.bl[A]:=by
    rw [eo]
    unfold doM
    simp only [k4,show ¬ ((4:Int)=1) by decide,show ¬ ((4:Int)=2) by decide,show ¬ ((4:Int)=3) by decide,show ¬ ((4:Int)=9) by decide,show ¬ ((4:Int)=10) by decide,or_false,true_or,if_true,if_false,fA,getD_lt _ hA]
  rw [ed] at er ⊢
  have kq:(opAt ats o).k=4:=by rw [eo];exact k4
  obtain ⟨_,_,_,z⟩:=realloc_out iv (opAt ats o) hA kq er
  have hz:=z x x0 (by unfold chargeO;rw [if_neg (by omega),if_neg (by omega),r.c,eo];exact x1) (by rw [eA];exact x2)
  rw [hz,eA]
theorem FRel.read_byte {C:Cf} (tp:C.Tp g l u) (hP:C.H≤C.P) {m:Mod} {f f':Fa} {i:Int} {ats:Int→Int} (hi:0≤i) (r:FRel g l u C m f i ats) {o:OpV} (e:f.does C i o=some f') (k7:o.k=7) :
    (doM m (opAt ats o)).2.byte=byteAt m (ats o.p) o.n:=by
  obtain ⟨er,_,_⟩:=r.step tp hP hi e
  obtain ⟨_,_,h3,_⟩:=does_held r.inv e
  obtain ⟨s0,hs0,_⟩:=h3 (by omega)
  obtain ⟨A,hA,fA,eA⟩:=r.find hs0
  have eo:opAt ats o = { o with p:=ats o.p }:=by unfold opAt;rw [if_pos (by omega)]
  have ed:doM m (opAt ats o)=ofM m (opAt ats o) A m.bl[A]:=by
    rw [eo]
    unfold doM
    simp only [k7,show ¬ ((7:Int)=1) by decide,show ¬ ((7:Int)=2) by decide,show ¬ ((7:Int)=3) by decide,show ¬ ((7:Int)=9) by decide,show ¬ ((7:Int)=10) by decide,or_false,or_true,true_or,if_true,if_false,fA,getD_lt _ hA]
  have kq:(opAt ats o).k=7:=by rw [eo];exact k7
  rw [ed] at er ⊢
  rcases ofM_cases m (opAt ats o) A m.bl[A] (by omega) with ⟨k5,ee⟩ | ⟨k5,ee⟩ | ⟨k5,_,ee⟩ | ⟨k5,hn,ee⟩ | h
  · omega
  · omega
  · rw [ee,eA,eo];rfl
  · omega
  · exact absurd er h
end Go.Proofs.D.S
/- Rows of the law's own,kept apart from what calls are told of. -/
set_option linter.unusedVariables false
namespace Go.Proofs.D.S
open Go Go.RowKit
variable {Y:Nat→Option Obj} {G H:GH} {id nid:Nat} {o o':Obj}
def yset (Y:Nat→Option Obj) (id:Nat) (o:Obj):Nat→Option Obj:=fun j=>if j=id then some o else Y j
theorem yset_eq:yset Y id o id=some o:=if_pos rfl
theorem yset_ne {j:Nat} (h:j≠id):yset Y id o j=Y j:=if_neg h
theorem ext_zero:Ext (fun _=>none) G G:=⟨rfl,fun _ _=>rfl,fun id o h=>by cases h⟩
theorem ext_pull (e:Ext Y G H) (hg:G.get id=some o) (hid:id<G.next):Ext (yset Y id o) (G.set id none) H:=by
  refine ⟨e.nx,fun j hj=>?_,fun j x hx=>?_⟩
  · by_cases h:j=id
    · rw [h,yset_eq] at hj;cases hj
    · rw [yset_ne h] at hj
      rw [GH.get_set,if_neg h];exact e.out j hj
  · rw [GH.get_set,GH.next_set]
    by_cases h:j=id
    · subst h
      rw [yset_eq] at hx;cases hx
      rw [if_pos rfl]
      exact ⟨rfl,(e.get hg).2,hid⟩
    · rw [yset_ne h] at hx
      rw [if_neg h];exact e.inn j x hx
theorem ext_new (e:Ext Y G H) (w:G.wf) (o:Obj):Ext (yset Y G.next o) ((G.alloc o).set G.next none) (H.alloc o)∧Hp G ((G.alloc o).set G.next none) []∧Y G.next=none∧G.next≠0:=by
  have hn:G.next≠0:=by have:=w.2;omega
  refine ⟨ext_pull (e.alloc o) (by rw [GH.get_alloc,if_pos rfl]) (by rw [GH.next_alloc];omega),((Hp.refl w).alloc o).free hn,?_,hn⟩
  cases hy:Y G.next with
  | none=>rfl
  | some x=>have:=(e.inn _ _ hy).2.2;omega
theorem ext_new2 (e:Ext Y G H) (w:G.wf) (o:Obj):∃ G',Ext (yset Y H.next o) G' (H.alloc o)∧Hp G G' []∧Y H.next=none∧H.next≠0:=by
  obtain ⟨a,b,c,d⟩:=ext_new e w o
  rw [e.nx]
  exact ⟨_,a,b,c,d⟩
theorem ext_chg (e:Ext Y G H) (hy:Y id=some o) (o':Obj):Ext (yset Y id o') G (H.set id (some o')):=by
  refine ⟨e.nx,fun j hj=>?_,fun j x hx=>?_⟩
  · by_cases h:j=id
    · rw [h,yset_eq] at hj;cases hj
    · rw [yset_ne h] at hj
      rw [GH.get_set,if_neg h];exact e.out j hj
  · obtain ⟨a,b,c⟩:=e.inn id o hy
    rw [GH.get_set]
    by_cases h:j=id
    · subst h
      rw [yset_eq] at hx;cases hx
      rw [if_pos rfl];exact ⟨a,rfl,c⟩
    · rw [yset_ne h] at hx
      rw [if_neg h];exact e.inn j x hx
section
variable {α:Type} {ec:α→List Cell} {xs:List α} {k:Nat}
theorem ext_sl (e:Ext Y G H) (hy:Y id=some (.row (cells ec xs) false)):Sl H ec id 0 xs:=by
  obtain ⟨_,h,_⟩:=e.inn _ _ hy
  exact .inr ⟨_,row_row h,by omega,by rw [List.drop_zero,List.take_length]⟩
theorem ext_put [W:Wide k ec] (e:Ext Y G H) (hy:Y id=some (.row (cells ec xs) false)) {i:Nat} (hi:i<xs.length) (v:α) {off:Nat} (ho:off=0+i*k) {new:List Cell} (hn:new=ec v) :
    H.sts id off new=some (H.set id (some (.row (cells ec (xs.set i v)) false)))∧Ext (yset Y id (.row (cells ec (xs.set i v)) false)) G (H.set id (some (.row (cells ec (xs.set i v)) false))):=by
  obtain ⟨_,h,_⟩:=e.inn _ _ hy
  subst ho hn
  refine ⟨?_,ext_chg e hy _⟩
  unfold GH.sts
  have hl:(i+1)*k≤xs.length*k:=Nat.mul_le_mul_right _ hi
  rw [Nat.succ_mul] at hl
  rw [own_row h,Option.bind_some,if_pos (by rw [cells_len,W.len];omega),Nat.zero_add,cells_set xs i v hi]
end
/-! ### The law's rows: calls,places,what is known,charges. -/
abbrev eMp (k:Nat):List Cell:=[.map k]
instance:Wide 1 eMp:=⟨fun _=>rfl,by decide⟩
abbrev eKn (n:Int):V1:=.c (.int .i64 n)
abbrev eVn (n:Int):V1:=.c (.int .u8 n)
theorem eKn_inj (a b:Int) (h:eKn a=eKn b):a=b:=by injection h with h;injection h
theorem getD_eVn (o:Option Int):(o.map eVn).getD (.c (.int .u8 0))=eVn (o.getD 0):=by cases o <;> rfl
abbrev mpO (es:List (Int×Int)):Obj:=.map (.c (.int .i64)) (encM eKn eVn es)
theorem ext_ents {ks:VS} {es:List (V1×V1)} (e:Ext Y G H) (hy:Y id=some (.map ks es)):H.ents ks id=some es∧(id≠0→H.ents0 ks id=some es):=by
  obtain ⟨_,h,_⟩:=e.inn _ _ hy
  have:H.ents ks id=some es:=by unfold GH.ents;rw [h];exact if_pos rfl
  exact ⟨this,fun hid=>by unfold GH.ents0;rw [if_neg hid];exact this⟩
structure Rows (Y:Nat→Option Obj) (oid aid kid cid:Nat) (ops:List OpV) (al:List Int) (kl:List Nat) (cl:List Int) (K:Nat→List (Int×Int)) (i:Nat):Prop where
  o:Y oid=some (.row (cells eOp ops) false)
  a:Y aid=some (.row (cells eI al) false)
  k:Y kid=some (.row (cells eMp kl) false)
  c:Y cid=some (.row (cells eI cl) false)
  ne:oid≠aid∧oid≠kid∧oid≠cid∧aid≠kid∧aid≠cid∧kid≠cid
  mp:∀ j,j<i→kl.getD j 0≠0∧Y (kl.getD j 0)=some (mpO (K j))
  inj:∀ j j',j<i→j' < i→kl.getD j 0=kl.getD j' 0→j=j'
variable {oid aid kid cid:Nat} {ops:List OpV} {al cl:List Int} {kl:List Nat} {K:Nat→List (Int×Int)} {i:Nat}
theorem Rows.mne (r:Rows Y oid aid kid cid ops al kl cl K i) {j:Nat} (hj:j<i):kl.getD j 0≠oid∧kl.getD j 0≠aid∧kl.getD j 0≠kid∧kl.getD j 0≠cid:=by
  have h:=(r.mp j hj).2
  refine ⟨fun e=>?_,fun e=>?_,fun e=>?_,fun e=>?_⟩ <;> rw [e] at h
  · rw [r.o] at h;cases h
  · rw [r.a] at h;cases h
  · rw [r.k] at h;cases h
  · rw [r.c] at h;cases h
theorem Rows.setA (r:Rows Y oid aid kid cid ops al kl cl K i) (al':List Int):Rows (yset Y aid (.row (cells eI al') false)) oid aid kid cid ops al' kl cl K i:=by
  obtain ⟨n1,n2,n3,n4,n5,n6⟩:=r.ne
  refine ⟨?_,yset_eq,?_,?_,r.ne,fun j hj=>⟨(r.mp j hj).1,?_⟩,r.inj⟩
  · rw [yset_ne n1];exact r.o
  · rw [yset_ne (Ne.symm n4)];exact r.k
  · rw [yset_ne (Ne.symm n5)];exact r.c
  · rw [yset_ne (r.mne hj).2.1];exact (r.mp j hj).2
theorem Rows.setC (r:Rows Y oid aid kid cid ops al kl cl K i) (cl':List Int):Rows (yset Y cid (.row (cells eI cl') false)) oid aid kid cid ops al kl cl' K i:=by
  obtain ⟨n1,n2,n3,n4,n5,n6⟩:=r.ne
  refine ⟨?_,?_,?_,yset_eq,r.ne,fun j hj=>⟨(r.mp j hj).1,?_⟩,r.inj⟩
  · rw [yset_ne n3];exact r.o
  · rw [yset_ne n5];exact r.a
  · rw [yset_ne n6];exact r.k
  · rw [yset_ne (r.mne hj).2.2.2];exact (r.mp j hj).2
def kset (K:Nat→List (Int×Int)) (j:Nat) (es:List (Int×Int)):Nat→List (Int×Int):=fun j'=>if j' = j then es else K j'
theorem kset_eq {j:Nat} {es:List (Int×Int)}:kset K j es j=es:=if_pos rfl
theorem kset_ne {j j':Nat} {es:List (Int×Int)} (h:j'≠j):kset K j es j' = K j':=if_neg h
theorem Rows.setM (r:Rows Y oid aid kid cid ops al kl cl K i) {j:Nat} (hj:j<i) (es:List (Int×Int)):Rows (yset Y (kl.getD j 0) (mpO es)) oid aid kid cid ops al kl cl (kset K j es) i:=by
  obtain ⟨m1,m2,m3,m4⟩:=r.mne hj
  refine ⟨?_,?_,?_,?_,r.ne,fun j' hj'=>⟨(r.mp j' hj').1,?_⟩,r.inj⟩
  · rw [yset_ne (Ne.symm m1)];exact r.o
  · rw [yset_ne (Ne.symm m2)];exact r.a
  · rw [yset_ne (Ne.symm m3)];exact r.k
  · rw [yset_ne (Ne.symm m4)];exact r.c
  · by_cases h:j' = j
    · subst h;rw [yset_eq,kset_eq]
    · rw [yset_ne (fun e=>h (r.inj _ _ hj' hj e)),kset_ne h];exact (r.mp j' hj').2
theorem Rows.fresh (r:Rows Y oid aid kid cid ops al kl cl K i) (hn:Y nid=none) (x:Obj):Rows (yset Y nid x) oid aid kid cid ops al kl cl K i:=by
  have q:∀ {j:Nat} {y:Obj},Y j=some y→yset Y nid x j=some y:=fun {j y} h=>by
    rw [yset_ne (fun e=>by rw [e,hn] at h;cases h)];exact h
  exact ⟨q r.o,q r.a,q r.k,q r.c,r.ne,fun j hj=>⟨(r.mp j hj).1,q (r.mp j hj).2⟩,r.inj⟩
theorem Rows.setK (r:Rows Y oid aid kid cid ops al kl cl K i) (hi:i<kl.length) (h0:nid≠0) (hn:Y nid=some (mpO [])) (hj:∀ j,j<i→kl.getD j 0≠nid):Rows (yset Y kid (.row (cells eMp (kl.set i nid)) false)) oid aid kid cid ops al (kl.set i nid) cl (kset K i []) (i+1):=by
  obtain ⟨n1,n2,n3,n4,n5,n6⟩:=r.ne
  have old:∀ j,j<i→(kl.set i nid).getD j 0=kl.getD j 0:=fun j h=>by
    rw [List.getD_eq_getElem?_getD,List.getD_eq_getElem?_getD,List.getElem?_set_ne (by omega)]
  have now:(kl.set i nid).getD i 0=nid:=by
    rw [List.getD_eq_getElem?_getD,List.getElem?_set_self hi];rfl
  have nk:nid≠kid:=fun e=>by rw [e,r.k] at hn;cases hn
  refine ⟨?_,?_,yset_eq,?_,r.ne,fun j hj'=>?_,fun j j' h h' e=>?_⟩
  · rw [yset_ne n2];exact r.o
  · rw [yset_ne n4];exact r.a
  · rw [yset_ne (Ne.symm n6)];exact r.c
  · by_cases h:j=i
    · subst h
      rw [now,kset_eq,yset_ne nk];exact ⟨h0,hn⟩
    · rw [old j (by omega),kset_ne h,yset_ne (r.mne (show j<i by omega)).2.2.1]
      exact r.mp j (by omega)
  · by_cases h1:j=i
    · by_cases h2:j' = i
      · omega
      · rw [h1,now,old j' (by omega)] at e;exact absurd e.symm (hj j' (by omega))
    · by_cases h2:j' = i
      · rw [h2,now,old j (by omega)] at e;exact absurd e (hj j (by omega))
      · rw [old j (by omega),old j' (by omega)] at e;exact r.inj j j' (by omega) (by omega) e
/-! ### What is known of bytes. -/
structure Kn (C:Cf) (m:Mod) (f:Fa) (al cl:List Int) (K:Nat→List (Int×Int)):Prop where
  ch:∀ p s,aGet f.held p=some s→cl.getD p.toNat 0=(chargeS C.G C.N s 1).1
  by_:∀ p s,aGet f.held p=some s→∀ n v,aGet (K p.toNat) n=some v→0≤n∧n<(chargeS C.G C.N s 1).1∧byteAt m (atsF al p) n=v
theorem Kn.step {g l u:Nat} {C:Cf} (tp:C.Tp g l u) (hP:C.H≤C.P) {m:Mod} {f f':Fa} (r:FRel g l u C m f (i:Int) (atsF al)) (iv:Inv m) (hil:i<al.length) {o:OpV} (e:f.does C (i:Int) o=some f') (kn:Kn C m f al cl K) {cl':List Int} {K':Nat→List (Int×Int)}
    (hcl:∀ j,j<i→cl'.getD j 0=cl.getD j 0) (hK:∀ j,j<i→K' j=if o.k=8∧(j:Int)=o.p then aPut (K j) o.n o.b else K j)
    (hn:∀ s,aGet f'.held (i:Int)=some s→cl'.getD i 0=(chargeS C.G C.N s 1).1∧∀ n v,aGet (K' i) n=some v→0≤n∧n<(chargeS C.G C.N s 1).1∧byteAt (doM m (opAt (atsF al) o)).1 (doM m (opAt (atsF al) o)).2.at_ n=v) :
    Kn C (doM m (opAt (atsF al) o)).1 f' (al.set i (doM m (opAt (atsF al) o)).2.at_) cl' K':=by
  obtain ⟨h1,h2,h3,_,_,h6,_⟩:=does_held r.inv e
  have hb:=r.bytes tp hP (by omega) iv e
  have pos:∀ p s,aGet f.held p=some s→0≤p∧p<(i:Int)∧s≤(chargeS C.G C.N s 1).1:=fun p s h=>by
    have:=r.inv.keys _ (aGet_mem h)
    dsimp only at this
    obtain ⟨k,_,hc,_,hs⟩:=charge_fair tp.ex this.2.2.1 this.2.2.2.1 this.2.2.2.2
    rw [hc];exact ⟨this.1,this.2.1,hs⟩
  refine ⟨fun p s hp=>?_,fun p s hp n v hv=>?_⟩
  · by_cases hpi:p=i
    · subst hpi;rw [Int.toNat_natCast];exact (hn s hp).1
    · obtain ⟨h0,_⟩:=h1 p s hp hpi
      have:=pos p s h0
      rw [hcl _ (by omega)];exact kn.ch p s h0
  · by_cases hpi:p=i
    · subst hpi
      rw [Int.toNat_natCast] at hv
      rw [atsF_set hil _ _ (by omega)]
      unfold upd
      rw [if_pos rfl]
      exact (hn s hp).2 n v hv
    · obtain ⟨h0,_⟩:=h1 p s hp hpi
      have hpp:=pos p s h0
      rw [hK _ (by omega),Int.toNat_of_nonneg hpp.1] at hv
      rw [atsF_set hil _ _ hpp.1]
      unfold upd
      rw [if_neg hpi]
      have hb:=fun x=>hb p s hp hpi x
      by_cases hs:o.k=8∧p=o.p
      · rw [if_pos hs,aGet_put] at hv
        by_cases hno:n=o.n
        · rw [if_pos hno] at hv
          cases hv
          obtain ⟨s0,hs0,hb0⟩:=h3 (by omega)
          rw [← hs.2,h0] at hs0
          cases hs0
          have:=hb0 (.inr hs.1)
          refine ⟨by omega,by omega,?_⟩
          rw [hb n (by omega) (by omega),if_pos ⟨hs.1,hs.2,hno⟩]
        · rw [if_neg hno] at hv
          obtain ⟨a,b,c⟩:=kn.by_ p s h0 n v hv
          exact ⟨a,b,by rw [hb n a b,if_neg (fun h=>hno h.2.2)];exact c⟩
      · rw [if_neg hs] at hv
        obtain ⟨a,b,c⟩:=kn.by_ p s h0 n v hv
        exact ⟨a,b,by rw [hb n a b,if_neg (fun h=>hs ⟨h.1,h.2.1⟩)];exact c⟩
end Go.Proofs.D.S
/- TopBytes: whatever the numbers,the law answers yes. -/
set_option linter.unusedVariables false
set_option linter.unusedSimpArgs false
namespace Go.Proofs.D.S
open Go Go.RowKit
set_option maxHeartbeats 4000000 in
theorem hodmantop_TopBytes.law {G:GH} (hG:Beg G) {id:Nat} {xs:List Int} (hs:Sl G eU8 id 0 xs) (hb:Bytes xs) {id2:Nat} {ys:List Int} (hs2:Sl G eU8 id2 0 ys) (hb2:Bytes ys) :
    OkT (CW hodmantop_TopBytes.id [.c (.sl 1 id 0 xs.length),.c (.sl 1 id2 0 ys.length)] G):=by
  obtain ⟨G1,e1,f1⟩:=F20.sp hG
  rw [hodmantop_TopBytes.cw]
  unfold hodmantop_TopBytes.f
  simp only [e1,Qs]
  by_cases h6:(xs.length:Int)>6
  · rw [condD_pos h6,hodmantop_TopBytes.J13_eq,q_ct];exact ⟨_,rfl⟩
  rw [condD_neg h6,hodmantop_TopBytes.J13_eq]
  by_cases h200:(ys.length:Int)>200
  · rw [condD_pos h200];exact ⟨_,rfl⟩
  rw [condD_neg h200]
  have h0:=Hp.refl f1.wf
  have p0:PkOk G1 [] id 0 xs.length xs:=⟨.old (f1.sl _ _ _ _ hs),hb,rfl,by omega⟩
  obtain ⟨pid,G2,e2,h2⟩:=F21.sp h0 id 0 xs.length
  obtain ⟨r,j,G3,e3,h3,rok,_,_⟩:=F9.sp h2 p0 (by omega) (by omega) true
  simp only [e2,e3,Qs,List.length_cons,List.length_nil,if_true]
  obtain ⟨g0,c0,q0,sm⟩:=rok.cfSmall
  have hof:=rok.ofC
  have sl2:Sl G3 eU8 id2 0 ys:=(f1.sl _ _ _ _ hs2).keep h3
  have hw:=h3.wf
  clear e1 e2 e3 h3 h2 p0 h0
  have ok:=sm.ok
  have hP0:=sm.s.hP.1 rfl
  have hH2:=sm.s.hH2
  obtain ⟨hid,s0,g,l,u,G4,e4,h4,hm4,_⟩:=F76.sp hw (r:=r) (by rw [hof])
  rw [hof] at hm4
  simp only [rwC] at e4
  rw [e4]
  clear e4 sm rok
  generalize cfOf r=C at *
  have tp:C.Tp g l u:=hm4.tp
  have hid0:=hm4.raw.h0
  have fs:=ok.facts
  have hmost:(1000000001:Nat)≤most:=by unfold most;decide
  have hPP:C.H≤C.P:=by omega
  simp only [Qs,List.length_cons,List.length_nil,if_true,decide_true]
  have J0:OkT (hodmantop_TopBytes.J22 machW CW id2 0 ys.length hid 0 false G4):=by
    rw [hodmantop_TopBytes.J22_eq,q_cf,F28.sp hm4.raw]
    have hc4:s0.c=C:=hm4.eq.c.symm
    rw [hc4]
    simp only [cfC,Qs,List.length_cons,List.length_nil,if_true]
    have pp:PkOk G4 [] id2 0 ys.length ys:=⟨.old (sl2.keep h4),hb2,rfl,by omega⟩
    obtain ⟨oid,ops,G5,e5,h5,hops,hol⟩:=F10.sp (c:=C) (Hp.refl h4.wf) pp (A:=60) (by omega)
    rw [cfC] at e5
    rw [e5]
    simp only [Qs]
    obtain ⟨G6,e6,h6'⟩:=F16.sp h5 ok (Rd.own (List.mem_cons_self ..)) (fun o ho=>⟨(hops o ho).1,(hops o ho).2.2.1⟩) (by omega)
    rw [cfC] at e6
    rw [e6]
    simp only [Qs]
    cases hmay:fa0.may C 0 ops with
    | false=>rw [q_nf,q_ct];exact ⟨_,rfl⟩
    | true =>
    rw [q_nt,q_cf,guardD_of (by omega),guardD_of (by omega),guardD_of (by omega),Int.toNat_natCast]
    by_cases hn0:ops.length=0
    · rw [hodmantop_TopBytes.L136_eq,condD_neg (by omega)];exact ⟨_,rfl⟩
    obtain ⟨ho0,hgo⟩:oid≠0∧G6.get oid=some (.row (cells eOp ops) false):=by
      rcases h6'.row (id:=oid) (cs:=cells eOp ops) (List.mem_cons_self ..) with h | h
      · have:=cells_nil h;rw [this] at hn0;exact absurd rfl hn0
      · exact h
    have E1:=ext_pull (ext_zero (G:=G6)) hgo (wf_lt h6'.wf hgo)
    have hp1:=h6'.free ho0
    have hm1:=hm4.keep hp1
    obtain ⟨Ga,E2,ha,ya,na⟩:=ext_new2 E1 hm1.raw.w (.row (reps ops.length [.int .i64 0]) false)
    have hm2:=hm1.keep ha
    obtain ⟨Gb,E3,hb',yb,nb⟩:=ext_new2 E2 hm2.raw.w (.row (reps ops.length [.map 0]) false)
    have hm3:=hm2.keep hb'
    obtain ⟨Gc,E4,hc',yc,nc⟩:=ext_new2 E3 hm3.raw.w (.row (reps ops.length [.int .i64 0]) false)
    have hmc:=hm3.keep hc'
    have R0:∃ Y,Ext Y Gc (((G6.alloc (.row (reps ops.length [.int .i64 0]) false)).alloc (.row (reps ops.length [.map 0]) false)).alloc (.row (reps ops.length [.int .i64 0]) false)) ∧
        Rows Y oid G6.next (G6.alloc (.row (reps ops.length [.int .i64 0]) false)).next ((G6.alloc (.row (reps ops.length [.int .i64 0]) false)).alloc (.row (reps ops.length [.map 0]) false)).next ops (tab ops.length fun _=>0) (tab ops.length fun _=>0) (tab ops.length fun _=>0) (fun _=>[]) 0:=by
      refine ⟨_,E4,?_⟩
      rw [reps_tab (e:=eI) ops.length (0:Int),reps_tab (e:=eMp) ops.length (0:Nat)] at *
      have n1:oid≠G6.next:=by have:=wf_lt h6'.wf hgo;omega
      have n2:G6.next≠(G6.alloc (.row (cells eI (tab ops.length fun _=>0)) false)).next:=by rw [GH.next_alloc];omega
      have n3:oid≠(G6.alloc (.row (cells eI (tab ops.length fun _=>0)) false)).next:=by have:=wf_lt h6'.wf hgo;rw [GH.next_alloc];omega
      have n4:(G6.alloc (.row (cells eI (tab ops.length fun _=>0)) false)).next≠((G6.alloc (.row (cells eI (tab ops.length fun _=>0)) false)).alloc (.row (cells eMp (tab ops.length fun _=>0)) false)).next:=by rw [GH.next_alloc,GH.next_alloc];omega
      have n5:G6.next≠((G6.alloc (.row (cells eI (tab ops.length fun _=>0)) false)).alloc (.row (cells eMp (tab ops.length fun _=>0)) false)).next:=by rw [GH.next_alloc,GH.next_alloc];omega
      have n6:oid≠((G6.alloc (.row (cells eI (tab ops.length fun _=>0)) false)).alloc (.row (cells eMp (tab ops.length fun _=>0)) false)).next:=by have:=wf_lt h6'.wf hgo;rw [GH.next_alloc,GH.next_alloc];omega
      refine ⟨?_,?_,?_,yset_eq,⟨n1,n3,n6,n2,n5,n4⟩,fun j hj=>by omega,fun j j' hj=>by omega⟩
      · rw [yset_ne n6,yset_ne n3,yset_ne n1,yset_eq]
      · rw [yset_ne n5,yset_ne n2,yset_eq]
      · rw [yset_ne n4,yset_eq]
    obtain ⟨Y0,E0,R0⟩:=R0
    clear E1 E2 E3 E4 ha hb' hc' hm1 hm2 hm3 ya yb yc na nb nc
    generalize ((G6.alloc (.row (reps ops.length [.int .i64 0]) false)).alloc (.row (reps ops.length [.map 0]) false)).alloc (.row (reps ops.length [.int .i64 0]) false)=H0 at *
    generalize ((G6.alloc (.row (reps ops.length [.int .i64 0]) false)).alloc (.row (reps ops.length [.map 0]) false)).next=cid at *
    generalize (G6.alloc (.row (reps ops.length [.int .i64 0]) false)).next=kid at *
    generalize G6.next=aid at *
    have lp:∀ (d i:Nat) (m:Mod) (s:HS) (f:Fa) (al:List Int) (kl:List Nat) (cl:List Int) (K:Nat→List (Int×Int)) (Y:Nat→Option Obj) (G7 H7:GH),i+d=ops.length→al.length=ops.length→kl.length=ops.length→cl.length=ops.length→Ext Y G7 H7→Rows Y oid aid kid cid ops al kl cl K i→HM G7 hid s g l u m→FRel g l u C m f (i:Int) (atsF al)→Inv m→Kn C m f al cl K→f.may C i (ops.drop i)=true →
        OkT (hodmantop_TopBytes.L136 machW CW hid 0 oid 0 ops.length aid 0 ops.length kid 0 ops.length cid 0 ops.length (i:Int) C.G C.N C.M C.L C.Pg C.P C.H C.Sd H7):=by
      intro d
      induction d with
      | zero =>
        intro i m s f al kl cl K Y G7 H7 hi hal hkl hcl E R hm rel iv kn may
        rw [hodmantop_TopBytes.L136_eq,condD_neg (by omega)];exact ⟨_,rfl⟩
      | succ d ih =>
        intro i m s f al kl cl K Y G7 H7 hi hal hkl hcl E R hm rel iv kn may
        have hil:i<ops.length:=by omega
        have ed:ops.drop i=ops[i]::ops.drop (i+1):=List.drop_eq_getElem_cons hil
        have zi:decide (0≤(i:Int)∧(i:Int)<((ops.length:Nat):Int))=true:=decide_eq_true (by omega)
        have so:=ext_sl E R.o
        have sa:=ext_sl E R.a
        obtain ⟨rs,ra,rn,_,_,op1⟩:=hops _ (List.getElem_mem hil)
        have q0:=so.ld i 0 hil (by omega)
        have q1:=so.ld i 1 hil (by omega)
        have q2:=so.ld i 2 hil (by omega)
        have q3:=so.ld i 3 hil (by omega)
        have q4:=so.ld i 4 hil (by omega)
        have q5:=so.ld i 5 hil (by omega)
        rw [ed] at may
        simp only [Fa.may] at may
        generalize ops[i]=o at *
        cases hd:f.does C (i:Int) o with
        | none=>rw [hd] at may;cases may
        | some f' =>
        rw [hd] at may
        dsimp only at may
        obtain ⟨er,rel',hp⟩:=rel.step tp hPP (by omega) hd
        obtain ⟨w1,w2,w3,w4,w5,w6,w7⟩:=does_held rel.inv hd
        have iv':=inv_do iv (opAt (atsF al) o)
        have rel2:=rel'.congr fun j h0 _=>(atsF_set (l:=al) (by omega) (doM m (opAt (atsF al) o)).2.at_ j h0).symm
        have ropt:R64 (opAt (atsF al) o).s∧R64 (opAt (atsF al) o).a∧R64 (opAt (atsF al) o).n:=by
          unfold opAt;split <;> exact ⟨rs,ra,rn⟩
        have kst:=fun {cl' K'}=>kn.step tp hPP rel iv (by omega:i<al.length) hd (cl':=cl') (K':=K')
        have rdb:=rel.read_byte tp hPP (by omega) hd
        have zrb:=rel.zero_bytes tp hPP (by omega) iv hd
        have mvb:=fun h4 {s0}=>rel.move_bytes tp hPP (by omega) iv hd h4 (s0:=s0)
        obtain ⟨G8,s',e8,hm8,_,_⟩:=F40.sp hm (opAt (atsF al) o) ropt.1 ropt.2.1 ropt.2.2
        generalize hdo:doM m (opAt (atsF al) o)=dm at *
        obtain ⟨m',an⟩:=dm
        dsimp only at er rel' rel2 iv' kst rdb zrb mvb e8 hm8
        have go:∀ o':OpV,o' = opAt (atsF al) o→OkT (hodmantop_TopBytes.J128 machW CW hid 0 oid 0 ops.length aid 0 ops.length kid 0 ops.length cid 0 ops.length (i:Int) o.p C.G C.N C.M C.L C.Pg C.P C.H C.Sd o'.k o'.p o'.s o'.a o'.n o'.b H7):=by
          intro o' eo'
          have ek:o'.k=o.k∧o'.s=o.s∧o'.n=o.n∧o'.b=o.b:=by rw [eo'];unfold opAt;split <;> exact ⟨rfl,rfl,rfl,rfl⟩
          obtain ⟨ek,es,en,eb⟩:=ek
          rw [← eo'] at e8
          obtain ⟨H8,e8',E8⟩:=callW_ext e8 E
          have e8':CW F40.id [.c (.ptr hid 0),.agg (eOp o')] H7=some ([.agg (eAns an)],H8):=e8'
          rw [hodmantop_TopBytes.J128_eq,e8']
          simp only [Qs,List.length_cons,List.length_nil,if_true]
          rw [condN_neg er,zi,q_gk]
          obtain ⟨G9,E9,h9,y9,n9⟩:=ext_new2 E8 hm8.raw.w (mpO [])
          have hm9:=hm8.keep h9
          have R9:=R.fresh y9 (mpO [])
          have m9:yset Y H8.next (mpO []) H8.next=some (mpO []):=yset_eq
          have d9:∀ j,j<i→kl.getD j 0≠H8.next:=fun j hj e=>by
            have:=(R.mp j hj).2
            rw [e,y9] at this;cases this
          have eal:H8.alloc (mpO [])=H8.alloc (.map (.c (.int .i64)) []):=rfl
          rw [eal] at E9
          generalize H8.alloc (.map (.c (.int .i64)) [])=H9 at *
          generalize H8.next=nid at *
          generalize yset Y nid (mpO [])=Y9 at *
          obtain ⟨t1,E10⟩:=ext_put E9 R9.a (by omega:i<al.length) an.at_ (off:=0+i*1) rfl (new:=[.int .i64 an.at_]) rfl
          have R10:=R9.setA (al.set i an.at_)
          have m10:yset Y9 aid (.row (cells eI (al.set i an.at_)) false) nid=some (mpO []):=by
            rw [yset_ne (fun e=>by rw [e,R9.a] at m9;cases m9)];exact m9
          rw [Int.toNat_natCast,t1,q_bs,q_gk]
          obtain ⟨t2,E11⟩:=ext_put E10 R10.k (by omega:i<kl.length) nid (off:=0+i*1) rfl (new:=[.map nid]) rfl
          have R11:=R10.setK (by omega) n9 m10 d9
          rw [t2,q_bs]
          generalize H9.set aid _=H10 at *
          generalize H10.set kid _=H11 at *
          generalize yset (yset Y9 aid _) kid _=Y11 at *
          have hal2:(al.set i an.at_).length=ops.length:=by rw [List.length_set];exact hal
          have hkl2:(kl.set i nid).length=ops.length:=by rw [List.length_set];exact hkl
          have ko:∀ j,j<i→(kset K i []) j=K j:=fun j hj=>kset_ne (by omega)
          have fin:∀ (cl':List Int) (K':Nat→List (Int×Int)) (Y':Nat→Option Obj) (H':GH),cl'.length=ops.length→Ext Y' G9 H'→Rows Y' oid aid kid cid ops (al.set i an.at_) (kl.set i nid) cl' K' (i+1)→Kn C m' f' (al.set i an.at_) cl' K' →
              OkT (hodmantop_TopBytes.J133 machW CW hid 0 oid 0 ops.length aid 0 ops.length kid 0 ops.length cid 0 ops.length (i:Int) C.G C.N C.M C.L C.Pg C.P C.H C.Sd H'):=by
            intro cl' K' Y' H' hcl' E' R' kn'
            rw [hodmantop_TopBytes.J133_eq,i64w,wrap_id (by omega) (by omega)]
            exact ih (i+1) m' s' f' _ _ cl' K' Y' G9 H' (by omega) hal2 hkl2 hcl' E' R' hm9 rel2 iv' kn' may
          have chr:∀ x:Int,0≤(chargeS C.G C.N x 1).1∧(chargeS C.G C.N x 1).1≤65536:=fun x=>by
            have:=chargeS_range ok x 1
            unfold Cf.charge at this
            omega
          have R1:R64 (1:Int):=by unfold R64;omega
          have hcf:∀ {x:Int} {G:GH},CW F14.id [.agg [.int .i64 C.G,.int .i64 C.N,.int .i64 C.M,.int .i64 C.L,.int .i64 C.Pg,.int .i64 C.P,.int .i64 C.H,.int .i64 C.Sd],.c (.int .i64 x),.c (.int .i64 1)] G=some ([.c (.int .i64 (chargeS C.G C.N x 1).1),.c (.int .i64 (chargeS C.G C.N x 1).2)],G):=fun {x G}=>F14.sp (c:=C) (s:=x) ok R1
          have ldK:∀ {cl':List Int} {K':Nat→List (Int×Int)} {Y':Nat→Option Obj} {H':GH},Ext Y' G9 H'→Rows Y' oid aid kid cid ops (al.set i an.at_) (kl.set i nid) cl' K' (i+1)→∀ j,j<i+1→H'.ld kid (0+j*1)=some (.map ((kl.set i nid).getD j 0)):=by
            intro cl' K' Y' H' E' R' j hj
            have hj2:j<(kl.set i nid).length:=by omega
            have:=(ext_sl E' R'.k).ld j 0 hj2 (by omega)
            rw [Nat.add_zero] at this
            rw [this,getD_lt 0 hj2];rfl
          have ldC:∀ {cl':List Int} {K':Nat→List (Int×Int)} {Y':Nat→Option Obj} {H':GH},cl'.length=ops.length→Ext Y' G9 H'→Rows Y' oid aid kid cid ops (al.set i an.at_) (kl.set i nid) cl' K' (i+1)→∀ j,j<i+1→H'.ld cid (0+j*1)=some (.int .i64 (cl'.getD j 0)):=by
            intro cl' K' Y' H' hl E' R' j hj
            have hj2:j<cl'.length:=by omega
            have:=(ext_sl E' R'.c).ld j 0 hj2 (by omega)
            rw [Nat.add_zero] at this
            rw [this,getD_lt 0 hj2];rfl
          have hcs:∀ v:Int,(cl.set i v).length=ops.length∧(cl.set i v).getD i 0=v∧∀ j,j<i→(cl.set i v).getD j 0=cl.getD j 0:=fun v=>by
            refine ⟨by rw [List.length_set];exact hcl,?_,fun j hj=>?_⟩
            · rw [set_getD (by omega),if_pos rfl]
            · rw [set_getD (by omega),if_neg (by omega)]
          have l82:(o.k=1∨o.k=4)→(0≤o.p∧o.p<(i:Int)+1)→∀ (d nn:Nat) (es:List (Int×Int)) (Y':Nat→Option Obj) (H':GH),nn+d=65536→Ext Y' G9 H'→Rows Y' oid aid kid cid ops (al.set i an.at_) (kl.set i nid) (cl.set i (chargeS C.G C.N o.s 1).1) (kset K i es) (i+1) →
              (∀ n v,aGet es n=some v→o.k=4∧0≤n∧n<(nn:Int)∧n<(chargeS C.G C.N o.s 1).1∧n<cl.getD o.p.toNat 0∧aGet (K o.p.toNat) n=some v) →
              OkT (hodmantop_TopBytes.L82 machW CW hid 0 oid 0 ops.length aid 0 ops.length kid 0 ops.length cid 0 ops.length (i:Int) o.p (nn:Int) C.G C.N C.M C.L C.Pg C.P C.H C.Sd o'.k o'.p o'.s o'.a o'.n o'.b H'):=by
            intro k14 hop d
            obtain ⟨cs1,cs2,cs3⟩:=hcs (chargeS C.G C.N o.s 1).1
            have cr:=chr o.s
            have ends:∀ (nn:Nat) (es:List (Int×Int)) (Y':Nat→Option Obj) (H':GH),Ext Y' G9 H'→Rows Y' oid aid kid cid ops (al.set i an.at_) (kl.set i nid) (cl.set i (chargeS C.G C.N o.s 1).1) (kset K i es) (i+1) →
                (∀ n v,aGet es n=some v→o.k=4∧0≤n∧n<(nn:Int)∧n<(chargeS C.G C.N o.s 1).1∧n<cl.getD o.p.toNat 0∧aGet (K o.p.toNat) n=some v) →
                OkT (hodmantop_TopBytes.J69 machW CW hid 0 oid 0 ops.length aid 0 ops.length kid 0 ops.length cid 0 ops.length (i:Int) o.p (nn:Int) false C.G C.N C.M C.L C.Pg C.P C.H C.Sd o'.k o'.p o'.s o'.a o'.n o'.b H'):=by
              intro nn es Y' H' E' R' hes
              rw [hodmantop_TopBytes.J69_eq,q_cf]
              refine fin _ _ Y' H' cs1 E' R' (kst cs3 (fun j hj=>by rw [kset_ne (by omega),if_neg (by omega)]) fun s hs=>?_)
              have es:s=o.s:=by rcases w2 s hs with h | h | h <;> omega
              rw [cs2,es]
              refine ⟨rfl,fun n v hv=>?_⟩
              rw [kset_eq] at hv
              obtain ⟨k4,n0,n1,n2,n3,n4⟩:=hes n v hv
              obtain ⟨sp,hsp,_⟩:=w3 (.inl k4)
              rw [kn.ch _ _ hsp] at n3
              exact ⟨n0,n2,(mvb k4 hsp n n0 n2 n3).trans (kn.by_ _ _ hsp n v n4).2.2⟩
            induction d with
            | zero =>
              intro nn es Y' H' hnn E' R' hes
              rw [hodmantop_TopBytes.L82_eq,zi,q_gk,Int.toNat_natCast,ldC cs1 E' R' i (by omega),q_bs,q_I,q_bs,guardD_of (by omega),ldC cs1 E' R' o.p.toNat (by omega)]
              simp only [Qs,cs2]
              rw [condD_neg (by rw [mn2_eq];omega)]
              exact ends nn es Y' H' E' R' hes
            | succ d ihd =>
              intro nn es Y' H' hnn E' R' hes
              rw [hodmantop_TopBytes.L82_eq,zi,q_gk,Int.toNat_natCast,ldC cs1 E' R' i (by omega),q_bs,q_I,q_bs,guardD_of (by omega),ldC cs1 E' R' o.p.toNat (by omega)]
              simp only [Qs,cs2]
              by_cases hlt:(nn:Int)<mn2 (chargeS C.G C.N o.s 1).1 ((cl.set i (chargeS C.G C.N o.s 1).1).getD o.p.toNat 0)
              · rw [condD_pos hlt]
                rw [mn2_eq] at hlt
                by_cases k4:o.k=4
                · obtain ⟨p0,p1⟩:=hp (by omega)
                  rw [cs3 _ (by omega)] at hlt
                  rw [decide_eq_true (by omega:o'.k=4),hodmantop_TopBytes.J69_eq,q_ct,guardD_of (by omega),ldK E' R' o.p.toNat (by omega)]
                  obtain ⟨mz,mp⟩:=R'.mp o.p.toNat (by omega)
                  rw [kset_ne (by omega)] at mp
                  simp only [Qs]
                  rw [(ext_ents E' mp).2 mz,q_bs,show V1.c (Cell.int IntKind.i64 (nn:Int))=eKn nn from rfl,mapGet_enc eKn_inj,getD_eVn,isSome_map']
                  simp only [Qs]
                  have nx:∀ (es:List (Int×Int)) (Y':Nat→Option Obj) (H':GH),Ext Y' G9 H'→Rows Y' oid aid kid cid ops (al.set i an.at_) (kl.set i nid) (cl.set i (chargeS C.G C.N o.s 1).1) (kset K i es) (i+1) →
                      (∀ n v,aGet es n=some v→o.k=4∧0≤n∧n<(nn:Int)+1∧n<(chargeS C.G C.N o.s 1).1∧n<cl.getD o.p.toNat 0∧aGet (K o.p.toNat) n=some v) →
                      OkT (hodmantop_TopBytes.J79 machW CW hid 0 oid 0 ops.length aid 0 ops.length kid 0 ops.length cid 0 ops.length (i:Int) o.p (nn:Int) C.G C.N C.M C.L C.Pg C.P C.H C.Sd o'.k o'.p o'.s o'.a o'.n o'.b H'):=by
                    intro es Y' H' E' R' hes
                    rw [hodmantop_TopBytes.J79_eq,i64w,wrap_id (by omega) (by omega),show (nn:Int)+1=((nn+1:Nat):Int) by omega]
                    exact ihd (nn+1) es Y' H' (by omega) E' R' fun n v hv=>by
                      obtain ⟨a1,a2,a3,a4⟩:=hes n v hv
                      exact ⟨a1,a2,by omega,a4⟩
                  cases hv:aGet (K o.p.toNat) (nn:Int) with
                  | none =>
                    rw [Option.isSome_none,q_cf]
                    exact nx es Y' H' E' R' fun n v hv=>by
                      obtain ⟨a1,a2,a3,a4⟩:=hes n v hv
                      exact ⟨a1,a2,by omega,a4⟩
                  | some v =>
                    rw [Option.isSome_some,q_ct,zi,q_gk,Int.toNat_natCast,ldK E' R' i (by omega)]
                    obtain ⟨mz2,mp2⟩:=R'.mp i (by omega)
                    rw [kset_eq] at mp2
                    simp only [Qs]
                    rw [(ext_ents E' mp2).1,q_bs,show V1.c (Cell.int IntKind.u8 ((some v).getD 0))=eVn v from rfl,mapPut_enc eKn_inj]
                    have R2:=R'.setM (show i<i+1 by omega) (aPut es (nn:Int) v)
                    have ek2:kset (kset K i es) i (aPut es (nn:Int) v)=kset K i (aPut es (nn:Int) v):=by
                      funext j';unfold kset;split <;> rfl
                    rw [ek2] at R2
                    refine nx _ _ _ (ext_chg E' mp2 _) R2 fun n v' hv'=>?_
                    rw [aGet_put] at hv'
                    split at hv'
                    · rename_i hn;cases hv';subst hn
                      exact ⟨k4,by omega,by omega,by omega,by omega,hv⟩
                    · obtain ⟨a1,a2,a3,a4⟩:=hes n v' hv'
                      exact ⟨a1,a2,by omega,a4⟩
                · rw [decide_eq_false (by omega:¬ o'.k=4)]
                  exact ends nn es Y' H' E' R' hes
              · rw [condD_neg hlt]
                exact ends nn es Y' H' E' R' hes
          have l99:o.k=2→∀ (d nn:Nat) (es:List (Int×Int)) (Y':Nat→Option Obj) (H':GH),nn+d=65536→Ext Y' G9 H'→Rows Y' oid aid kid cid ops (al.set i an.at_) (kl.set i nid) (cl.set i (chargeS C.G C.N (productS C.N o.n o.s).1 1).1) (kset K i es) (i+1) →
              (∀ n v,aGet es n=some v→0≤n∧n<(nn:Int)∧n<(chargeS C.G C.N (productS C.N o.n o.s).1 1).1∧v=0) →
              OkT (hodmantop_TopBytes.L99 machW CW hid 0 oid 0 ops.length aid 0 ops.length kid 0 ops.length cid 0 ops.length (i:Int) (nn:Int) C.G C.N C.M C.L C.Pg C.P C.H C.Sd H'):=by
            intro k2 d
            obtain ⟨cs1,cs2,cs3⟩:=hcs (chargeS C.G C.N (productS C.N o.n o.s).1 1).1
            have cr:=chr (productS C.N o.n o.s).1
            induction d with
            | zero =>
              intro nn es Y' H' hnn E' R' hes
              rw [hodmantop_TopBytes.L99_eq,zi,q_gk,Int.toNat_natCast,ldC cs1 E' R' i (by omega)]
              simp only [Qs,cs2]
              rw [condD_neg (by omega)]
              refine fin _ _ Y' H' cs1 E' R' (kst cs3 (fun j hj=>by rw [kset_ne (by omega),if_neg (by omega)]) fun s hs=>?_)
              have es:s=(productS C.N o.n o.s).1:=by
                rcases w2 s hs with h | h | h
                · omega
                · rw [h.2]
                · omega
              rw [cs2,es]
              refine ⟨rfl,fun n v hv=>?_⟩
              rw [kset_eq] at hv
              obtain ⟨n0,n1,n2,n3⟩:=hes n v hv
              exact ⟨n0,n2,by rw [n3];exact zrb k2 n n0 n2⟩
            | succ d ihd =>
              intro nn es Y' H' hnn E' R' hes
              rw [hodmantop_TopBytes.L99_eq,zi,q_gk,Int.toNat_natCast,ldC cs1 E' R' i (by omega)]
              simp only [Qs,cs2]
              by_cases hlt:(nn:Int)<(chargeS C.G C.N (productS C.N o.n o.s).1 1).1
              · rw [condD_pos hlt,ldK E' R' i (by omega)]
                obtain ⟨mz2,mp2⟩:=R'.mp i (by omega)
                rw [kset_eq] at mp2
                simp only [Qs]
                rw [(ext_ents E' mp2).1,q_bs,show V1.c (Cell.int IntKind.i64 (nn:Int))=eKn nn from rfl,show V1.c (Cell.int IntKind.u8 0)=eVn 0 from rfl,mapPut_enc eKn_inj]
                have R2:=R'.setM (show i<i+1 by omega) (aPut es (nn:Int) 0)
                have ek2:kset (kset K i es) i (aPut es (nn:Int) 0)=kset K i (aPut es (nn:Int) 0):=by
                  funext j';unfold kset;split <;> rfl
                rw [ek2] at R2
                rw [i64w,wrap_id (by omega) (by omega),show (nn:Int)+1=((nn+1:Nat):Int) by omega]
                refine ihd (nn+1) _ _ _ (by omega) (ext_chg E' mp2 _) R2 fun n v' hv'=>?_
                rw [aGet_put] at hv'
                split at hv'
                · rename_i hn;cases hv';subst hn
                  exact ⟨by omega,by omega,by omega,rfl⟩
                · obtain ⟨a1,a2,a3⟩:=hes n v' hv'
                  exact ⟨a1,by omega,a3⟩
              · rw [condD_neg hlt]
                refine fin _ _ Y' H' cs1 E' R' (kst cs3 (fun j hj=>by rw [kset_ne (by omega),if_neg (by omega)]) fun s hs=>?_)
                have es:s=(productS C.N o.n o.s).1:=by
                  rcases w2 s hs with h | h | h
                  · omega
                  · rw [h.2]
                  · omega
                rw [cs2,es]
                refine ⟨rfl,fun n v hv=>?_⟩
                rw [kset_eq] at hv
                obtain ⟨n0,n1,n2,n3⟩:=hes n v hv
                exact ⟨n0,n2,by rw [n3];exact zrb k2 n n0 n2⟩
          have j122:∀ t:Bool,t=decide (o.k=1∨o.k=4)→OkT (hodmantop_TopBytes.J122 machW CW hid 0 oid 0 ops.length aid 0 ops.length kid 0 ops.length cid 0 ops.length (i:Int) o.p o'.k t C.G C.N C.M C.L C.Pg C.P C.H C.Sd o'.k o'.p o'.s o'.a o'.n o'.b an.err an.at_ an.n an.byte an.live an.peak an.mark an.pages H11):=by
            intro t ht
            rw [hodmantop_TopBytes.J122_eq]
            by_cases k14:o.k=1∨o.k=4
            · rw [ht,decide_eq_true k14,q_ct,hcf,es]
              simp only [Qs]
              rw [zi,q_gk,Int.toNat_natCast]
              obtain ⟨t3,E12⟩:=ext_put E11 R11.c (by omega:i<cl.length) (chargeS C.G C.N o.s 1).1 (off:=0+i*1) rfl (new:=[.int .i64 (chargeS C.G C.N o.s 1).1]) rfl
              have R12:=R11.setC (cl.set i (chargeS C.G C.N o.s 1).1)
              rw [t3,q_bs]
              have l:=l82 k14 (by
                rcases k14 with h | h
                · have:=op1 h;omega
                · have:=hp (by omega);omega) 65536 0 [] _ _ rfl E12 R12 (fun n v h=>by cases h)
              rw [es] at l
              exact l
            rw [ht,decide_eq_false k14,q_cf]
            have nil_:∀ s,aGet f'.held (i:Int)=some s→o.k≠2→False:=fun s hs h2=>by
              rcases w2 s hs with h | h | h <;> omega
            by_cases k2:o.k=2
            · have hpe:IntKind.i64.wrap (o.n*o.s)=(productS C.N o.n o.s).1:=by
                have hp:=w7 k2
                unfold productS at hp ⊢
                by_cases c1:o.n<0∨o.s<0
                · rw [if_pos c1] at hp;simp at hp
                · rw [if_neg c1] at hp ⊢
                  by_cases c2:o.n*o.s>C.N
                  · rw [if_pos c2] at hp;simp at hp
                  · have:=Int.mul_nonneg (show 0≤o.n by omega) (show 0≤o.s by omega)
                    rw [if_neg c2,i64w,wrap_id (by omega) (by omega)]
              rw [condD_pos (by omega),hcf,es,en,hpe]
              simp only [Qs]
              rw [zi,q_gk,Int.toNat_natCast]
              obtain ⟨t3,E12⟩:=ext_put E11 R11.c (by omega:i<cl.length) (chargeS C.G C.N (productS C.N o.n o.s).1 1).1 (off:=0+i*1) rfl (new:=[.int .i64 (chargeS C.G C.N (productS C.N o.n o.s).1 1).1]) rfl
              have R12:=R11.setC (cl.set i (chargeS C.G C.N (productS C.N o.n o.s).1 1).1)
              rw [t3,q_bs]
              exact l99 k2 65536 0 [] _ _ rfl E12 R12 (fun n v h=>by cases h)
            rw [condD_neg (by omega)]
            by_cases k8:o.k=8
            · obtain ⟨p0,p1⟩:=hp (by omega)
              rw [condD_pos (by omega),guardD_of (by omega),ldK E11 R11 o.p.toNat (by omega)]
              obtain ⟨mz,mp⟩:=R11.mp o.p.toNat (by omega)
              simp only [Qs]
              rw [(ext_ents E11 mp).1,q_bs,en,eb,show V1.c (Cell.int IntKind.i64 o.n)=eKn o.n from rfl,show V1.c (Cell.int IntKind.u8 o.b)=eVn o.b from rfl,mapPut_enc eKn_inj]
              have R2:=R11.setM (show o.p.toNat<i+1 by omega) (aPut (kset K i [] o.p.toNat) o.n o.b)
              refine fin _ _ _ _ hcl (ext_chg E11 mp _) R2 (kst (fun j hj=>rfl) (fun j hj=>?_) fun s hs=>(nil_ s hs (by omega)).elim)
              by_cases hjp:(j:Int)=o.p
              · rw [if_pos ⟨k8,hjp⟩,show o.p.toNat=j by omega,kset_eq,kset_ne (by omega)]
              · rw [if_neg (fun h=>hjp h.2),kset_ne (by omega),kset_ne (by omega)]
            rw [condD_neg (by omega)]
            have rest:OkT (hodmantop_TopBytes.J133 machW CW hid 0 oid 0 ops.length aid 0 ops.length kid 0 ops.length cid 0 ops.length (i:Int) C.G C.N C.M C.L C.Pg C.P C.H C.Sd H11) :=
              fin _ _ _ _ hcl E11 R11 (kst (fun j hj=>rfl) (fun j hj=>by rw [kset_ne (by omega),if_neg (fun h=>k8 h.1)]) fun s hs=>(nil_ s hs k2).elim)
            by_cases k7:o.k=7
            · obtain ⟨p0,p1⟩:=hp (by omega)
              rw [condD_pos (by omega),guardD_of (by omega),ldK E11 R11 o.p.toNat (by omega)]
              obtain ⟨mz,mp⟩:=R11.mp o.p.toNat (by omega)
              rw [kset_ne (by omega)] at mp
              simp only [Qs]
              rw [(ext_ents E11 mp).2 mz,q_bs,en,show V1.c (Cell.int IntKind.i64 o.n)=eKn o.n from rfl,mapGet_enc eKn_inj,getD_eVn,isSome_map']
              simp only [Qs]
              cases hv:aGet (K o.p.toNat) o.n with
              | none =>
                rw [Option.isSome_none,q_cf,hodmantop_TopBytes.J112_eq,q_cf]
                exact rest
              | some v =>
                obtain ⟨sp,hsp,_⟩:=w3 (by omega)
                have:=(kn.by_ _ _ hsp o.n v hv).2.2
                rw [Option.isSome_some,q_ct,decide_eq_true (by rw [rdb k7];exact this.symm),q_nt,hodmantop_TopBytes.J112_eq,q_cf]
                exact rest
            rw [condD_neg (by omega)]
            exact rest
          by_cases k1:o'.k=1
          · rw [condD_pos k1];exact j122 _ (decide_eq_decide.2 (by omega))
          · rw [condD_neg k1];exact j122 _ (decide_eq_decide.2 (by omega))
        have mid:∀ t:Bool,t=decide (4≤o.k∧o.k≤8)→OkT (hodmantop_TopBytes.J47 machW CW hid 0 oid 0 ops.length aid 0 ops.length kid 0 ops.length cid 0 ops.length (i:Int) o.p t C.G C.N C.M C.L C.Pg C.P C.H C.Sd o.k o.p o.s o.a o.n o.b H7):=by
          intro t ht
          subst ht
          rw [hodmantop_TopBytes.J47_eq]
          by_cases hk:4≤o.k∧o.k≤8
          · obtain ⟨p0,p1⟩:=hp hk
            have hpl:o.p.toNat<al.length:=by omega
            have r0:=sa.ld o.p.toNat 0 hpl (by omega)
            rw [Nat.add_zero] at r0
            rw [condD_pos hk,guardD_of (by omega),r0]
            simp only [Qs]
            have:al[o.p.toNat]=atsF al o.p:=by unfold atsF;rw [getD_lt 0 hpl]
            rw [this]
            exact go { o with p:=atsF al o.p } (by unfold opAt;rw [if_pos hk])
          · rw [condD_neg hk]
            exact go o (by unfold opAt;rw [if_neg hk])
        rw [hodmantop_TopBytes.L136_eq,condD_pos (by omega)]
        simp only [zi,Int.toNat_natCast,q0,q1,q2,q3,q4,q5,Qs]
        by_cases k4:o.k≥4
        · rw [condD_pos k4];exact mid _ (decide_eq_decide.2 (by omega))
        · rw [condD_neg k4];exact mid false (decide_eq_false (by omega)).symm
    have rel0:FRel g l u C (newM C) fa0 0 (atsF (tab ops.length fun _=>0)):=FRel.zero tp (newM_ok ok) rfl rfl _
    exact lp ops.length 0 (newM C) s0 fa0 _ _ _ _ Y0 Gc H0 (by omega) tab_len tab_len tab_len E0 R0 hmc rel0 (inv_nil (newM_ok ok) rfl) ⟨fun p s h=>(by cases h),fun p s h=>(by cases h)⟩ (by rw [List.drop_zero];exact hmay)
  rw [nbf hid0]
  exact J0
end Go.Proofs.D.S
