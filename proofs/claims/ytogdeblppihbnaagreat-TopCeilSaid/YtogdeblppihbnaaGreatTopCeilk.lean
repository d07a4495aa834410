/- Texts of the proof (SpTree, SpTree2, SpSlots, SpUse, SpSide, SpPlc, SpNew, SpPin, SpComm, SpHeap, SpHeap2, SpPuts, SpPuts2, SpAsks, SpDoH, SpBlk, DSrt, DBin, DMap, SpRel, SpRel2, SpRel3, SpRel4); no condition. -/
import Derived.Test.YtogdeblppihbnaaGreatTopCeilj
set_option linter.unusedSimpArgs false
set_option linter.unusedVariables false
/- Trees: what the functions of tree come to. -/
set_option linter.unusedVariables false
set_option linter.unusedSimpArgs false
namespace Go.Proofs.D.S
open Go Go.RowKit
variable {G G0:GH} {L:List (Nat×Obj)} {X:List Nat}
theorem clone_row {α:Type} {k:Nat} {e:α→List Cell} [W:Wide k e] {R:Type} {id off:Nat} {xs:List α} (w:G.wf) (s:Sl G e id off xs) (hl:xs.length≤most) :
    ∃ id' G',Hp G G' [rowE e id' xs]∧id'≠0∧∀ (K:Nat×Nat×GH→Option R),
      ((if xs.length=0 then some [] else (G.alloc (.row [] false)).lds id off (xs.length*k)).bind fun new=>guardK (decide (0+xs.length≤most)) (((G.alloc (.row [] false)).app G.next 0 0 k xs.length new).bind K))=K (id',0,G'):=by
  have h1:=(Hp.refl w).alloc (.row [] false)
  have hz:G.next≠0:=by have:=w.2;omega
  by_cases hx:xs.length=0
  · have e0:=List.length_eq_zero_iff.1 hx
    subst e0
    refine ⟨G.next,_,h1,hz,fun K=>?_⟩
    rw [List.length_nil,if_pos rfl,Option.bind_some,guardD_of (Nat.zero_le _)]
    simp [GH.app]
  · have h2:=(h1.free hz).alloc (.row (cells e xs) false)
    refine ⟨_,_,h2,by rw [GH.next_set,GH.next_alloc];omega,fun K=>?_⟩
    rw [(s.keep h1).lds rfl,Option.bind_some,guardD_of (by omega)]
    unfold GH.app
    rw [if_neg hx,if_neg hz,own_row (h1.hd hz).2,Option.bind_some,if_pos (by simp),Option.bind_some]
    simp [GH.next_set]
theorem F4.sp {id off:Nat} {xs:List Int} (w:G.wf) (hid:id≠0) (s:Sl G eU id off xs) (hl:xs.length≤1000000000) :
    ∃ id' G',CW F4.id [.c (.sl 1 id off xs.length)] G=some ([.c (.sl 1 id' 0 xs.length)],G')∧Hp G G' [rowE eU id' xs]∧id'≠0:=by
  have hm:(1000000000:Nat)≤most:=by unfold most;decide
  obtain ⟨id',G',h,h0,key⟩:=clone_row (R:=Res) w s (by omega)
  refine ⟨id',G',?_,h,h0⟩
  rw [F4.cw]
  unfold F4.f
  rw [show Nat.beq id 0=false from by cases h:Nat.beq id 0 with | false=>rfl | true=>exact absurd (Nat.eq_of_beq_eq_true h) hid,q_xf,q_cf]
  try dsimp only
  rw [key]
  simp only [Nat.zero_add]
theorem F3.sp {id off:Nat} {xs:List (Nat×Nat)} (w:G.wf) (hid:id≠0) (s:Sl G eL id off xs) (hl:xs.length≤1000000000) :
    ∃ id' G',CW F3.id [.c (.sl 1 id off xs.length)] G=some ([.c (.sl 1 id' 0 xs.length)],G')∧Hp G G' [rowE eL id' xs]∧id'≠0:=by
  have hm:(1000000000:Nat)≤most:=by unfold most;decide
  obtain ⟨id',G',h,h0,key⟩:=clone_row (R:=Res) w s (by omega)
  refine ⟨id',G',?_,h,h0⟩
  rw [F3.cw]
  unfold F3.f
  rw [show Nat.beq id 0=false from by cases h:Nat.beq id 0 with | false=>rfl | true=>exact absurd (Nat.eq_of_beq_eq_true h) hid,q_xf,q_cf]
  try dsimp only
  rw [key]
  simp only [Nat.zero_add]
variable {B lid D:Nat} {Rk m:Nat→Nat} {F F':Nat→Nat→Bool}
theorem TrR.slL (t:TrR X G lid D Rk m F):Sl G eL lid 0 (tab D fun k=>(Rk k,m k)):=.inr ⟨_,t.row,by omega,by rw [List.drop_zero,List.take_length]⟩
theorem TrR.slW (t:TrR X G lid D Rk m F) {k:Nat} (hk:k<D):Sl G eU (Rk k) 0 (rowU (m k) (F k)):=.inr ⟨_,t.rows k hk,by omega,by rw [List.drop_zero,List.take_length]⟩
theorem rowU_len {n:Nat} {f:Nat→Bool}:(rowU n f).length=n:=by simp [rowU]
theorem F119.sp (t:TrR X G lid D Rk m F) {k i:Nat} {size:Int} (hk:k<D) (hi:i<m k) :
    CW F119.id [.agg [.int .i64 size,.sl 1 lid 0 D],.c (.int .i64 (k:Int)),.c (.int .i64 (i:Int))] G=some ([.c (.int .u64 (wdAt (F k) i))],G):=by
  rw [F119.cw]
  unfold F119.f
  have l1:=t.ldL hk
  have l2:=t.ldW hk hi
  rw [condD_neg (by omega),condD_neg (by omega),guardD_of (by omega)]
  simp only [Nat.mul_one,Nat.zero_add,Int.toNat_natCast,l1,Qs]
  rw [decide_eq_false (show ¬ (i:Int)≥((m k:Nat):Int) by omega),F119.J6_eq,q_cf,guardD_of (by omega)]
  simp only [Nat.mul_one,Nat.zero_add,Int.toNat_natCast,l1,Qs]
  rw [guardD_of (by omega),l2]
  simp only [Qs]
theorem F108.sp (t:TrO B G lid D Rk m F) {k j:Nat} {size:Int} (hk:k<D) (hj:j<m k) (g:Nat→Bool) :
    ∃ o',CW F108.id [.agg [.int .i64 size,.sl 1 lid 0 D],.c (.int .i64 (k:Int)),.c (.int .i64 (j:Int)),.c (.int .u64 (wd g))] G=some ([],G.set (Rk k) (some o')) ∧
      TrO B (G.set (Rk k) (some o')) lid D Rk m (fun k'=>if k' = k then fun p=>if 64*j≤p∧p<64*j+64 then g (p-64*j) else F k p else F k'):=by
  obtain ⟨e,t'⟩:=t.put hk hj g
  refine ⟨_,?_,t'⟩
  have l1:=(t.rd (X:=[]) (by simp)).ldL hk
  rw [F108.cw]
  unfold F108.f
  rw [condD_pos (by omega),condD_pos (by omega),guardD_of (by omega)]
  simp only [Nat.mul_one,Nat.zero_add,Int.toNat_natCast,l1,Qs]
  rw [decide_eq_true (show (j:Int)<((m k:Nat):Int) by omega),F108.J4_eq,q_ct,guardD_of (by omega)]
  simp only [Nat.mul_one,Nat.zero_add,Int.toNat_natCast,l1,Qs]
  rw [guardD_of (by omega),e,q_bs]
theorem tdn (a b:Nat):Int.tdiv (a:Int) (b:Int)=((a / b:Nat):Int):=by rw [Int.ofNat_tdiv]
theorem td64 (a:Nat):Int.tdiv (a:Int) 64=((a / 64:Nat):Int):=tdn a 64
theorem tm64 (a:Nat):Int.tmod (a:Int) 64=((a % 64:Nat):Int):=by rw [show (64:Int)=((64:Nat):Int) from rfl,Int.ofNat_tmod]
theorem F96.sp {size:Int} {k:Nat} (hD:D≤64) (hk1:1≤k) (hk:k<D) (hm0:m (k-1)≤1000000) (hm:∀ p,p<m (k-1)→p / 64<m k):∀ (d lo:Nat) (G:GH) (F:Nat→Nat→Bool) (hi:Nat),hi<m (k-1)→lo+d=hi+1→Hp G0 G []→TrO G0.next G lid D Rk m F →
    ∃ G',F96.L22 machW CW (k:Int) (hi:Int) (lo:Int) size lid 0 D G=some ([],G')∧Hp G0 G' [] ∧
      TrO G0.next G' lid D Rk m (fun k'=>if k' = k then fun p=>if lo≤p∧p≤hi then fullB (F (k-1)) p else F k p else F k'):=by
  intro d
  induction d with
  | zero =>
    intro lo G F hi hhi hlo h t
    rw [F96.L22_eq,condD_neg (by omega)]
    refine ⟨G,rfl,h,?_⟩
    have e:(fun k'=>if k' = k then fun p=>if lo≤p∧p≤hi then fullB (F (k-1)) p else F k p else F k')=F:=by
      funext k'
      by_cases hkk:k' = k
      · subst hkk;rw [if_pos rfl];funext p;rw [if_neg (by omega)]
      · rw [if_neg hkk]
    rw [e];exact t
  | succ d ih =>
    intro lo G F hi hhi hlo h t
    have hlm:=hm lo (by omega)
    have rd:=t.rd (X:=[]) (by simp)
    have hkd:k-1<D:=by omega
    rw [F96.L22_eq,condD_pos (by omega),u64id (by omega) (by omega),tm64,wd_one (by omega),q_bs,td64,i64w,wrap_id (by omega) (by omega),F119.sp rd hk hlm]
    simp only [Qs]
    rw [i64w,wrap_id (by omega) (by omega),show (k:Int)-1=((k-1:Nat):Int) by omega,F119.sp rd hkd (by omega)]
    simp only [Qs]
    have step:∀ v:Bool,fullB (F (k-1)) lo=v→∃ G',F96.J14 machW CW (k:Int) (hi:Int) (lo:Int) (wd fun b=>(F k (64*(lo / 64)+b)&&!decide (b=lo % 64))||(v&&decide (b=lo % 64))) size lid 0 D G=some ([],G')∧Hp G0 G' [] ∧
        TrO G0.next G' lid D Rk m (fun k'=>if k' = k then fun p=>if lo≤p∧p≤hi then fullB (F (k-1)) p else F k p else F k'):=by
      intro v hv
      obtain ⟨o',e1,t1⟩:=F108.sp t (size:=size) hk hlm (fun b=>(F k (64*(lo / 64)+b)&&!decide (b=lo % 64))||(v&&decide (b=lo % 64)))
      have h1:=t.hp h hk o'
      rw [F96.J14_eq,td64,i64w,wrap_id (by omega) (by omega),e1,q_bs,i64w,wrap_id (by omega) (by omega),show (lo:Int)+1=((lo+1:Nat):Int) by omega]
      obtain ⟨G',e2,h2,t2⟩:=ih (lo+1) _ _ hi hhi (by omega) h1 t1
      refine ⟨G',e2,h2,?_⟩
      have e:(fun k'=>if k' = k then fun p=>if lo+1≤p∧p≤hi then fullB ((fun k'=>if k' = k then fun p=>if 64*(lo / 64)≤p∧p<64*(lo / 64)+64 then (fun b=>(F k (64*(lo / 64)+b)&&!decide (b=lo % 64))||(v&&decide (b=lo % 64))) (p-64*(lo / 64)) else F k p else F k') (k-1)) p else (fun k'=>if k' = k then fun p=>if 64*(lo / 64)≤p∧p<64*(lo / 64)+64 then (fun b=>(F k (64*(lo / 64)+b)&&!decide (b=lo % 64))||(v&&decide (b=lo % 64))) (p-64*(lo / 64)) else F k p else F k') k p else (fun k'=>if k' = k then fun p=>if 64*(lo / 64)≤p∧p<64*(lo / 64)+64 then (fun b=>(F k (64*(lo / 64)+b)&&!decide (b=lo % 64))||(v&&decide (b=lo % 64))) (p-64*(lo / 64)) else F k p else F k') k') =
          (fun k'=>if k' = k then fun p=>if lo≤p∧p≤hi then fullB (F (k-1)) p else F k p else F k'):=by
        funext k'
        by_cases hkk:k' = k
        · subst hkk
          rw [if_pos rfl,if_pos rfl]
          funext p
          try dsimp only
          rw [if_neg (show k' - 1≠k' by omega),if_pos rfl]
          by_cases hp:lo+1≤p∧p≤hi
          · rw [if_pos hp,if_pos (by omega)]
          · rw [if_neg hp]
            by_cases hp1:p=lo
            · subst hp1
              rw [if_pos (by omega),if_pos (by omega),hv,decide_eq_true (show p-64*(p / 64)=p % 64 by omega)]
              simp
            · rw [if_neg (show ¬ (lo≤p∧p≤hi) by omega)]
              by_cases hp2:64*(lo / 64)≤p∧p<64*(lo / 64)+64
              · rw [if_pos hp2,decide_eq_false (show ¬ (p-64*(lo / 64)=lo % 64) by omega),show 64*(lo / 64)+(p-64*(lo / 64))=p by omega]
                simp
              · rw [if_neg hp2]
        · rw [if_neg hkk,if_neg hkk];dsimp only;rw [if_neg hkk]
      rw [e] at t2;exact t2
    by_cases hf:wdAt (F (k-1)) lo=18446744073709551615
    · rw [condD_pos hf]
      have:=step true (wdAt_full.1 hf)
      unfold wdAt
      rw [wd_andNot,wd_or]
      simpa only [Bool.true_and] using this
    · rw [condD_neg hf]
      have:=step false (by cases hx:fullB (F (k-1)) lo with | false=>rfl | true=>exact absurd (wdAt_full.2 hx) hf)
      unfold wdAt
      rw [wd_andNot]
      simpa only [Bool.false_and,Bool.or_false] using this
theorem nw_le {n:Nat} (hn:1≤n):∀ k,nw n k≤n
  | 0=>by simp only [nw];omega
  | k+1=>by have:=nw_le hn k;have:=nw_pos n k;simp only [nw];omega
theorem nw_up {n k p:Nat} (h:p<nw n k):p / 64<nw n (k+1):=by simp only [nw];omega
theorem nw_up0 {n p:Nat} (h:p<n):p / 64<nw n 0:=by simp only [nw];omega
theorem Hp.newId {o:Obj} {id:Nat} (h:Hp G0 G ((id,o)::L)) (hid:id≠0):G0.next≤id:=(h.hd hid).1
theorem F95.sp (w:G.wf) (t:TrR X G lid D Rk m F) (hD:D≤64) (hm:∀ k,m k≤1000000) {size:Int} :
    ∃ lid' R' G',CW F95.id [.agg [.int .i64 size,.sl 1 lid 0 D]] G=some ([.agg [.int .i64 size,.sl 1 lid' 0 D]],G')∧Hp G G' []∧TrO G.next G' lid' D R' m F:=by
  rw [F95.cw]
  unfold F95.f
  obtain ⟨lid',G1,e1,h1,hid'⟩:=F3.sp w (by have:=t.pos.1;omega) t.slL (by simp;omega)
  rw [show (tab D fun k=>(Rk k,m k)).length=D by simp] at e1
  rw [e1]
  simp only [Qs]
  have hb:=h1.newId hid'
  have lp:∀ (d i:Nat) (G2:GH) (R':Nat→Nat),i+d=D→Hp G G2 []→G2.get lid' = some (.row (cells eL (tab D fun k=>(if k<i then R' k else Rk k,m k))) false) →
      (∀ k,k<i→G2.get (R' k)=some (.row (cells eU (rowU (m k) (F k))) false)∧G.next≤R' k∧R' k≠lid')→(∀ j k,j<i→k<i→R' j=R' k→j=k) →
      ∃ R'' G',F95.L15 machW CW lid' 0 D (D:Int) (i:Int) size lid' 0 D 0 0 0 0 G2=some ([.agg [.int .i64 size,.sl 1 lid' 0 D]],G')∧Hp G G' []∧TrO G.next G' lid' D R'' m F:=by
    intro d
    induction d with
    | zero =>
      intro i G2 R' hi h hrow hrows hnd
      rw [F95.L15_eq,condD_neg (by omega)]
      have hiD:i=D:=by omega
      subst hiD
      refine ⟨R',G2,rfl,h,?_,fun k hk=>(hrows k hk).1,hnd,fun k hk=>(hrows k hk).2.2,hb,by omega,fun k hk=>⟨(hrows k hk).2.1,by have:=(hrows k hk).2.1;have:=w.2;omega⟩⟩
      rw [hrow]
      rw [show (tab i fun k=>(if k<i then R' k else Rk k,m k))=tab i fun k=>(R' k,m k) from tab_congr fun k hk=>by rw [if_pos hk]]
    | succ d ih =>
      intro i G2 R' hi h hrow hrows hnd
      have hiD:i<D:=by omega
      have ld:G2.ld lid' i=some (.sl 1 (Rk i) 0 (m i)):=by
        have hh:=cells_get (e:=eL) (tab D fun k=>(if k<i then R' k else Rk k,m k)) i 0 (by simpa using hiD) (by decide)
        rw [Nat.mul_one,Nat.add_zero,tab_get (by simpa using hiD),if_neg (by omega)] at hh
        rw [ld_row (row_row hrow),hh];rfl
      obtain ⟨id2,G3,e2,h2,hid2⟩:=F4.sp (G:=G2) h.wf (by have:=t.pos.2 i hiD;omega) ((t.keep h).slW hiD) (by rw [rowU_len];have:=hm i;omega)
      rw [rowU_len] at e2
      have hb2:=h2.newId hid2
      have g2:=(h2.hd hid2).2
      have hl2:lid' < G2.next:=wf_lt h.wf hrow
      have keep3:∀ j,j<G2.next→G3.get j=G2.get j:=h2.old
      have e3:splice (cells eL (tab D fun k=>(if k<i then R' k else Rk k,m k))) i [.sl 1 id2 0 (m i)]=cells eL (tab D fun k=>(if k<i+1 then (fun k=>if k=i then id2 else R' k) k else Rk k,m k)):=by
        have hh:=cells_set (e:=eL) (tab D fun k=>(if k<i then R' k else Rk k,m k)) i (id2,m i) (by simpa using hiD)
        rw [Nat.mul_one] at hh
        rw [show [Cell.sl 1 id2 0 (m i)]=eL (id2,m i) from rfl,hh,tab_set]
        congr 1
        refine tab_congr fun k hk=>?_
        by_cases hki:k=i
        · subst hki;rw [if_pos rfl,if_pos (by omega)];dsimp only;rw [if_pos rfl]
        · rw [if_neg hki]
          by_cases hk2:k<i
          · rw [if_pos hk2,if_pos (by omega)];dsimp only;rw [if_neg hki]
          · rw [if_neg hk2,if_neg (by omega)]
      have h3:Hp G G3 []:=h.trans0 h2.nil
      have g3:G3.get lid' = some (.row (cells eL (tab D fun k=>(if k<i then R' k else Rk k,m k))) false):=by rw [keep3 _ hl2];exact hrow
      have est:G3.sts lid' i [.sl 1 id2 0 (m i)]=some (G3.set lid' (some (.row (cells eL (tab D fun k=>(if k<i+1 then (fun k=>if k=i then id2 else R' k) k else Rk k,m k))) false))):=by
        unfold GH.sts
        rw [own_row g3,Option.bind_some,if_pos (by rw [cells_len];simp;omega),e3]
      rw [F95.L15_eq,condD_pos (by omega),guardD_of (by omega)]
      simp only [Nat.mul_one,Nat.zero_add,Int.toNat_natCast,ld,Qs,e2]
      rw [guardD_of (by omega),est,q_bs,i64w,wrap_id (by omega) (by omega),show (i:Int)+1=((i+1:Nat):Int) by omega]
      have hne:id2≠lid':=by omega
      refine ih (i+1) _ (fun k=>if k=i then id2 else R' k) (by omega) (h3.set0 hb g3) (by rw [GH.get_set,if_pos rfl]) (fun k hk=>?_) (fun j k hj hk e=>?_)
      · by_cases hki:k=i
        · subst hki
          rw [if_pos rfl,GH.get_set,if_neg hne,g2]
          exact ⟨rfl,by have:=h.nx;omega,hne⟩
        · rw [if_neg hki,GH.get_set]
          obtain ⟨a,b,c⟩:=hrows k (by omega)
          rw [if_neg c,keep3 _ (wf_lt h.wf a)]
          exact ⟨a,b,c⟩
      · have lt:∀ k,k<i→R' k<G2.next:=fun k hk=>wf_lt h.wf (hrows k hk).1
        by_cases hji:j=i
        · by_cases hki:k=i
          · omega
          · rw [if_pos hji,if_neg hki] at e;have:=lt k (by omega);omega
        · by_cases hki:k=i
          · rw [if_neg hji,if_pos hki] at e;have:=lt j (by omega);omega
          · rw [if_neg hji,if_neg hki] at e;exact hnd j k (by omega) (by omega) e
  obtain ⟨R'',G',e,h,t'⟩:=lp D 0 G1 Rk (by omega) h1.nil (by
    rw [(h1.hd hid').2]
    simp) (fun k hk=>by omega) (fun j k hj=>by omega)
  exact ⟨lid',R'',G',e,h,t'⟩
theorem F109.sp0 (w:G.wf) (t:TrR X G lid D Rk m F) (hD:D≤64) (hm:∀ k,m k≤1000000) {size:Int} :
    ∃ lid' R' G',CW F109.id [.agg [.int .i64 size,.sl 1 lid 0 D],.c (.int .i64 0),.c (.int .i64 0),.c (.bool true)] G=some ([.agg [.int .i64 size,.sl 1 lid' 0 D]],G')∧Hp G G' []∧TrO G.next G' lid' D R' m F:=by
  obtain ⟨lid',R',G',e,h,t'⟩:=F95.sp w t hD hm (size:=size)
  refine ⟨lid',R',G',?_,h,t'⟩
  rw [F109.cw]
  unfold F109.f
  rw [e]
  simp only [Qs,List.length_cons,List.length_nil,if_true,Nat.zero_add,Nat.reduceAdd]
  rw [condD_neg (by omega),condD_pos (by omega),F109.J7_eq,q_ct]
theorem F109.sp (w:G.wf) {n:Nat} {f:Nat→Bool} (t:TrR X G lid D Rk (nw n) (lf f)) (hD1:1≤D) (hD:D≤64) (hn:1≤n∧n≤65536) {from_ cnt_ last:Nat} {on:Bool} (hf:from_<n) (hc:1≤cnt_∧cnt_≤65536) (hlast:last=from_+min cnt_ (n-from_)-1) :
    ∃ lid' R' G',CW F109.id [.agg [.int .i64 (n:Int),.sl 1 lid 0 D],.c (.int .i64 (from_:Int)),.c (.int .i64 (cnt_:Int)),.c (.bool on)] G=some ([.agg [.int .i64 (n:Int),.sl 1 lid' 0 D]],G')∧Hp G G' [] ∧
      TrO G.next G' lid' D R' (nw n) (lf fun p=>if from_≤p∧p≤last then on else f p):=by
  have hm:∀ k,nw n k≤65536:=fun k=>Nat.le_trans (nw_le hn.1 k) hn.2
  obtain ⟨lid',R',G1,e1,h1,t1⟩:=F95.sp w t hD (fun k=>by have:=hm k;omega) (size:=(n:Int))
  have hl0:last<n:=by omega
  have hl64:last / 64<nw n 0:=nw_up0 hl0
  have hfl:from_≤last:=by omega
  have b0:=hm 0
  let f':Nat→Bool:=fun p=>if from_≤p∧p≤last then on else f p
  rw [F109.cw]
  unfold F109.f
  rw [e1]
  simp only [Qs,List.length_cons,List.length_nil,if_true,Nat.zero_add,Nat.reduceAdd]
  rw [condD_neg (by omega),condD_neg (by omega),condD_neg (by omega),decide_eq_false (by omega),F109.J7_eq,q_cf]
  have e2:IntKind.i64.wrap (IntKind.i64.wrap ((from_:Int)+mn2 (cnt_:Int) (IntKind.i64.wrap ((n:Int)-(from_:Int))))-1)=(last:Int):=by
    rw [i64w,i64w,i64w,wrap_id (a:=(n:Int)-from_) (by omega) (by omega),mn2_eq,wrap_id (a:=(from_:Int)+_) (by omega) (by omega),wrap_id (by omega) (by omega)];omega
  rw [e2,td64,i64w,wrap_id (by omega) (by omega)]
  have hD0:(0:Nat)<D:=hD1
  have up:∀ (d k lo hi:Nat) (G2:GH),k+d=D→1≤k→hi<nw n (k-1)→lo≤hi→(∀ p,¬ (lo≤p∧p≤hi)→fullB (lf f' (k-1)) p=lf f k p)→Hp G G2 []→TrO G.next G2 lid' D R' (nw n) (fun j=>if j<k then lf f' j else lf f j) →
      ∃ G',F109.L50 machW CW (lo:Int) (hi:Int) (k:Int) (n:Int) lid' 0 D 0 0 0 0 G2=some ([.agg [.int .i64 (n:Int),.sl 1 lid' 0 D]],G')∧Hp G G' []∧TrO G.next G' lid' D R' (nw n) (lf f'):=by
    intro d
    induction d with
    | zero =>
      intro k lo hi G2 hk hk1 hhi hlo hout h t2
      rw [F109.L50_eq,condD_neg (by omega)]
      exact ⟨G2,rfl,h,t2.congr fun j hj i hi=>by rw [if_pos (by omega)]⟩
    | succ d ih =>
      intro k lo hi G2 hk hk1 hhi hlo hout h t2
      have hmk:=hm (k-1)
      obtain ⟨G3,e3,h3,t3⟩:=F96.sp (G0:=G) (size:=(n:Int)) (k:=k) hD hk1 (by omega) (by omega) (fun p hp=>by
        have:=nw_up hp;rw [show k-1+1=k by omega] at this;exact this) (hi+1-lo) lo G2 _ hi hhi (by omega) h t2
      rw [F109.L50_eq,condD_pos (by omega),F96.cw]
      unfold F96.f
      rw [e3,q_bs,td64,td64,i64w,i64w,i64w,wrap_id (by omega) (by omega),wrap_id (by omega) (by omega),wrap_id (by omega) (by omega),show (k:Int)+1=((k+1:Nat):Int) by omega]
      have key:∀ p,(if lo≤p∧p≤hi then fullB (lf f' (k-1)) p else lf f k p)=lf f' k p:=fun p=>by
        rw [show lf f' k=fullB (lf f' (k-1)) by
          conv=>lhs;rw [show k=(k-1)+1 by omega]
          rfl]
        by_cases hp:lo≤p∧p≤hi
        · rw [if_pos hp]
        · rw [if_neg hp,hout p hp]
      refine ih (k+1) (lo / 64) (hi / 64) G3 (by omega) (by omega) (by rw [Nat.add_sub_cancel];have:=nw_up hhi;rw [show k-1+1=k by omega] at this;exact this) (Nat.div_le_div_right hlo) (fun p hp=>?_) h3 (t3.congr fun j hj i hi=>?_)
      · rw [Nat.add_sub_cancel]
        show fullB (lf f' k) p=fullB (lf f k) p
        unfold fullB
        rw [Bool.eq_iff_iff]
        simp only [List.all_eq_true,List.mem_range]
        have hq:∀ b,b<64→lf f' k (64*p+b)=lf f k (64*p+b):=fun b hb=>by
          rw [← key (64*p+b),if_neg (by omega)]
        exact ⟨fun hh b hb=>by rw [← hq b hb];exact hh b hb,fun hh b hb=>by rw [hq b hb];exact hh b hb⟩
      · try dsimp only
        unfold wdAt
        by_cases hjk:j=k
        · subst hjk
          rw [if_pos rfl]
          refine wd_congr fun b hb=>?_
          rw [if_pos (show j-1<j by omega),if_neg (show ¬ j<j by omega),if_pos (show j<j+1 by omega)]
          exact key _
        · rw [if_neg hjk]
          by_cases hj2:j<k
          · rw [if_pos hj2,if_pos (by omega)]
          · rw [if_neg hj2,if_neg (by omega)]
  have lp:∀ (d i:Nat) (G2:GH),i+d=last / 64+1→from_ / 64≤i→Hp G G2 []→TrO G.next G2 lid' D R' (nw n) (fun j=>if j<1 then fun p=>if from_≤p∧p≤last∧p<64*i then on else f p else lf f j) →
      ∃ G',F109.L33 machW CW (from_:Int) on (last:Int) (i:Int) (n:Int) lid' 0 D 0 0 0 0 G2=some ([.agg [.int .i64 (n:Int),.sl 1 lid' 0 D]],G')∧Hp G G' []∧TrO G.next G' lid' D R' (nw n) (lf f'):=by
    intro d
    induction d with
    | zero =>
      intro i G2 hi hfi h t2
      have l0:=(t2.rd (X:=[]) (by simp)).ldL hD0
      rw [F109.L33_eq,guardD_of (by omega)]
      simp only [Int.toNat_zero,Nat.zero_mul,Nat.add_zero,l0,Qs]
      rw [td64,i64w,wrap_id (by omega) (by omega),i64w,wrap_id (by omega) (by omega),mn2_eq,condD_neg (by omega),guardD_of (by omega),td64,i64w,wrap_id (by omega) (by omega),show min ((last / 64:Nat):Int) ((nw n 0:Nat)-1)=((last / 64:Nat):Int) by omega]
      refine up (D-1) 1 (from_ / 64) (last / 64) G2 (by omega) (Nat.le_refl _) hl64 (Nat.div_le_div_right hfl) (fun p hp=>?_) h (t2.congr fun j hj q hq=>?_)
      · show fullB f' p=fullB f p
        unfold fullB
        rw [Bool.eq_iff_iff]
        simp only [List.all_eq_true,List.mem_range]
        have hq:∀ b,b<64→f' (64*p+b)=f (64*p+b):=fun b hb=>if_neg (by omega)
        exact ⟨fun hh b hb=>by rw [← hq b hb];exact hh b hb,fun hh b hb=>by rw [hq b hb];exact hh b hb⟩
      · try dsimp only
        by_cases hj2:j<1
        · have:j=0:=by omega
          subst this
          rw [if_pos hj2,if_pos hj2]
          refine wdAt_congr fun b hb=>?_
          show _=f' (64*q+b)
          by_cases hp:from_≤64*q+b∧64*q+b≤last
          · rw [if_pos (by omega)];exact (if_pos hp).symm
          · rw [if_neg (by omega)];exact (if_neg hp).symm
        · rw [if_neg hj2,if_neg hj2]
    | succ d ih =>
      intro i G2 hi hfi h t2
      have rd:=t2.rd (X:=[]) (by simp)
      have l0:=rd.ldL hD0
      have hi0:i<nw n 0:=by omega
      rw [F109.L33_eq,guardD_of (by omega)]
      simp only [Int.toNat_zero,Nat.zero_mul,Nat.add_zero,l0,Qs]
      rw [td64,i64w,wrap_id (by omega) (by omega),i64w,wrap_id (by omega) (by omega),mn2_eq,condD_pos (by omega)]
      simp only [i64w]
      rw [wrap_id (a:=(i:Int)*64) (by omega) (by omega),wrap_id (a:=(from_:Int)-(i:Int)*64) (by omega) (by omega),mx2_eq,wrap_id (a:=(last:Int)-(i:Int)*64) (by omega) (by omega),mn2_eq,wrap_id (a:=min ((last:Int)-(i:Int)*64) 63-max ((from_:Int)-(i:Int)*64) 0) (by omega) (by omega),wrap_id (a:=min ((last:Int)-(i:Int)*64) 63-max ((from_:Int)-(i:Int)*64) 0+1) (by omega) (by omega)]
      have hfirst:max ((from_:Int)-(i:Int)*64) 0=((from_-64*i:Nat):Int):=by omega
      rw [hfirst,F90.sp (by omega) (by omega)]
      simp only [Qs]
      have e0:=F119.sp rd (size:=(n:Int)) hD0 hi0
      rw [show ((0:Nat):Int)=0 from rfl] at e0
      rw [e0]
      simp only [Qs]
      have step:∀ g:Nat→Bool,(∀ b,b<64→g b=if from_≤64*i+b∧64*i+b≤last then on else f (64*i+b))→∃ G',F109.J24 machW CW (from_:Int) on (last:Int) (i:Int) (wd g) (n:Int) lid' 0 D 0 0 0 0 G2=some ([.agg [.int .i64 (n:Int),.sl 1 lid' 0 D]],G')∧Hp G G' []∧TrO G.next G' lid' D R' (nw n) (lf f'):=by
        intro g hg
        obtain ⟨o',e5,t5⟩:=F108.sp t2 (size:=(n:Int)) hD0 hi0 g
        have h5:=t2.hp h hD0 o'
        rw [F109.J24_eq,show (0:Int)=((0:Nat):Int) from rfl,e5,q_bs,i64w,wrap_id (by omega) (by omega),show (i:Int)+1=((i+1:Nat):Int) by omega]
        refine ih (i+1) _ (by omega) (by omega) h5 (t5.congr fun j hj q hq=>?_)
        try dsimp only
        by_cases hj2:j=0
        · subst hj2
          rw [if_pos rfl,if_pos (show 0<1 by omega)]
          refine wdAt_congr fun b hb=>?_
          show (if 64*i≤64*q+b∧64*q+b<64*i+64 then g (64*q+b-64*i) else if from_≤64*q+b∧64*q+b≤last∧64*q+b<64*i then on else f (64*q+b))=if from_≤64*q+b∧64*q+b≤last∧64*q+b<64*(i+1) then on else f (64*q+b)
          by_cases hqi:q=i
          · subst hqi
            rw [if_pos (show 64*q≤64*q+b∧64*q+b<64*q+64 by omega),show 64*q+b-64*q=b by omega,hg b hb]
            by_cases hp:from_≤64*q+b∧64*q+b≤last
            · rw [if_pos hp,if_pos ⟨hp.1,hp.2,by omega⟩]
            · rw [if_neg hp,if_neg fun k=>hp ⟨k.1,k.2.1⟩]
          · rw [if_neg (show ¬ (64*i≤64*q+b∧64*q+b<64*i+64) by omega)]
            by_cases hp:from_≤64*q+b∧64*q+b≤last∧64*q+b<64*i
            · rw [if_pos hp,if_pos ⟨hp.1,hp.2.1,by omega⟩]
            · rw [if_neg hp,if_neg fun k=>hp ⟨k.1,k.2.1,by omega⟩]
        · rw [if_neg hj2,if_neg (show ¬ j<1 by omega),if_neg (show ¬ j<1 by omega)]
      have hmask:∀ b,b<64→(decide (from_-64*i≤b)&&decide ((b:Int)<((from_-64*i:Nat):Int)+(min ((last:Int)-(i:Int)*64) 63-((from_-64*i:Nat):Int)+1)))=decide (from_≤64*i+b∧64*i+b≤last):=fun b hb=>by
        rw [Bool.eq_iff_iff,Bool.and_eq_true]
        simp only [decide_eq_true_eq]
        omega
      have hword:∀ b,b<64→(if (0:Nat)<1 then fun p=>if from_≤p∧p≤last∧p<64*i then on else f p else lf f 0) (64*i+b)=f (64*i+b):=fun b hb=>by
        rw [if_pos (by omega)];exact if_neg (by omega)
      unfold wdAt
      cases on with
      | true =>
        rw [q_ct,wd_andNot,wd_or]
        refine step _ fun b hb=>?_
        try dsimp only
        rw [hmask b hb,hword b hb]
        by_cases hp:from_≤64*i+b∧64*i+b≤last
        · rw [decide_eq_true hp,if_pos hp];simp
        · rw [decide_eq_false hp,if_neg hp];simp
      | false =>
        rw [q_cf,wd_andNot]
        refine step _ fun b hb=>?_
        try dsimp only
        rw [hmask b hb,hword b hb]
        by_cases hp:from_≤64*i+b∧64*i+b≤last
        · rw [decide_eq_true hp,if_pos hp];simp
        · rw [decide_eq_false hp,if_neg hp];simp
  obtain ⟨G',e,h,t'⟩:=lp (last / 64+1-from_ / 64) (from_ / 64) G1 (by have:=Nat.div_le_div_right (c:=64) hfl;omega) (Nat.le_refl _) h1 (t1.congr fun j hj q hq=>by
    try dsimp only
    by_cases hj2:j<1
    · have:j=0:=by omega
      subst this
      rw [if_pos hj2]
      refine wdAt_congr fun b hb=>?_
      show f _=_
      try dsimp only
      rw [if_neg (by omega)]
    · rw [if_neg hj2])
  exact ⟨lid',R',G',e,h,t'⟩
end Go.Proofs.D.S
/- Trees: the first bit that is not set;a bit;new ones. -/
set_option linter.unusedVariables false
set_option linter.unusedSimpArgs false
namespace Go.Proofs.D.S
open Go Go.RowKit
variable {G G0:GH} {L:List (Nat×Obj)} {X:List Nat}
variable {B lid D:Nat} {Rk m:Nat→Nat} {F F':Nat→Nat→Bool}
def bc (n:Nat):Nat→Nat
  | 0=>n
  | k+1=>nw n k
theorem nw_bc (n k:Nat):nw n k=(bc n k-1) / 64+1:=by cases k <;> rfl
theorem lf_beyond {n:Nat} {f:Nat→Bool} (hb:∀ p,n≤p→f p=true):∀ k p,bc n k≤p→lf f k p=true
  | 0,p,h=>hb p h
  | k+1,p,h=>by
    have h':nw n k≤p:=h
    have:=nw_bc n k
    exact fullB_true.2 fun b hb'=>lf_beyond hb k _ (by omega)
theorem lf_all {f:Nat→Bool}:∀ k,(∀ p,lf f k p=true)→∀ p,f p=true
  | 0,h=>h
  | k+1,h=>lf_all k fun p=>by
    have:=fullB_true.1 (h (p / 64)) (p % 64) (Nat.mod_lt _ (by omega))
    rwa [show 64*(p / 64)+p % 64=p by omega] at this
theorem F47.sp {n:Nat} {f:Nat→Bool} (t:TrR X G lid D Rk (nw n) (lf f)) (hD1:1≤D) (hD:D≤64) (hn:1≤n∧n≤65536) (hlast:nw n (D-1)=1) (hb:∀ p,n≤p→f p=true) :
    (∃ z:Nat,CW F47.id [.agg [.int .i64 (n:Int),.sl 1 lid 0 D],.c (.int .i64 0)] G=some ([.c (.int .i64 (z:Int)),.c (.bool true)],G)∧z<n∧f z=false∧∀ p,p<z→f p=true) ∨
    (CW F47.id [.agg [.int .i64 (n:Int),.sl 1 lid 0 D],.c (.int .i64 0)] G=some ([.c (.int .i64 0),.c (.bool false)],G)∧∀ p,f p=true):=by
  have hm:∀ k,nw n k≤65536:=fun k=>Nat.le_trans (nw_le hn.1 k) hn.2
  have hbc:∀ k,bc n k≤65536:=fun k=>by cases k with | zero=>exact hn.2 | succ k=>exact hm k
  have far:=lf_beyond hb
  have down:∀ (k i:Nat),k<D→i≤5000000→lf f k i=false→(∀ p,p<i→lf f k p=true) →
      ∃ z:Nat,F47.L41 machW CW (k:Int) (i:Int) (n:Int) lid 0 D G=some ([.c (.int .i64 (z:Int)),.c (.bool true)],G)∧z<n∧f z=false∧∀ p,p<z→f p=true:=by
    intro k
    induction k with
    | zero =>
      intro i hk hi h0 h1
      have hin:i<n:=by
        rcases Nat.lt_or_ge i n with h | h
        · exact h
        · have:=hb i h;rw [show lf f 0 i=f i from rfl,this] at h0;cases h0
      rw [F47.L41_eq,condD_neg (by omega),decide_eq_true (by omega)]
      exact ⟨i,rfl,hin,h0,h1⟩
    | succ k ih =>
      intro i hk hi h0 h1
      have hik:i<nw n k:=by
        rcases Nat.lt_or_ge i (nw n k) with h | h
        · exact h
        · have:=far (k+1) i h;rw [this] at h0;cases h0
      have hmk:=hm k
      obtain ⟨z,e1,z1,z2,z3⟩:=F66.sp (G:=G) fun b=>lf f k (64*i+b)
      have hz:z<64:=by
        rcases Nat.lt_or_ge z 64 with h | h
        · exact h
        · have:lf f (k+1) i=true:=fullB_true.2 fun b hb'=>z2 b (by omega)
          rw [this] at h0;cases h0
      rw [F47.L41_eq,condD_pos (by omega),i64w,wrap_id (by omega) (by omega),show ((k+1:Nat):Int)-1=(k:Int) by omega,F119.sp t (by omega) hik]
      simp only [Qs]
      unfold wdAt
      rw [e1]
      simp only [Qs,i64w]
      rw [wrap_id (a:=(i:Int)*64) (by omega) (by omega),wrap_id (by omega) (by omega),show (i:Int)*64+(z:Int)=((64*i+z:Nat):Int) by omega]
      refine ih (64*i+z) (by omega) (by omega) (z3 hz) fun p hp=>?_
      by_cases hp2:p<64*i
      · have:=fullB_true.1 (h1 (p / 64) (by omega)) (p % 64) (Nat.mod_lt _ (by omega))
        rwa [show 64*(p / 64)+p % 64=p by omega] at this
      · have:=z2 (p-64*i) (by omega)
        rwa [show 64*i+(p-64*i)=p by omega] at this
  have up:∀ (d k i:Nat),k+d=D→(k=0∨1≤i)→i≤70000→(∀ p,p<i→lf f k p=true) →
      (∃ z:Nat,F47.L29 machW CW (k:Int) (i:Int) (n:Int) lid 0 D G=some ([.c (.int .i64 (z:Int)),.c (.bool true)],G)∧z<n∧f z=false∧∀ p,p<z→f p=true) ∨
      (F47.L29 machW CW (k:Int) (i:Int) (n:Int) lid 0 D G=some ([.c (.int .i64 0),.c (.bool false)],G)∧∀ p,f p=true):=by
    intro d
    induction d with
    | zero =>
      intro k i hk hki hi h1
      right
      rw [F47.L29_eq,condD_pos (by omega),F47.J14_eq,q_ct]
      refine ⟨rfl,lf_all k fun p=>?_⟩
      by_cases hp:p=0
      · subst hp;exact h1 0 (by omega)
      · refine far k p ?_
        rw [show k=(k-1)+1 by omega]
        show nw n (k-1)≤p
        rw [show k-1=D-1 by omega,hlast];omega
    | succ d ih =>
      intro k i hk hki hi h1
      have hkD:k<D:=by omega
      have hmk:=hm k
      have l1:=t.ldL hkD
      rw [F47.L29_eq,condD_neg (by omega),guardD_of (by omega)]
      simp only [Nat.mul_one,Nat.zero_add,Int.toNat_natCast,l1,Qs,td64]
      rw [i64w,wrap_id (by omega) (by omega)]
      by_cases hw:i / 64<nw n k
      · rw [decide_eq_false (by omega),F47.J14_eq,q_cf,td64,i64w,wrap_id (by omega) (by omega),F119.sp t hkD hw]
        simp only [Qs]
        have em:=F90.sp (G:=G) (i:=0) (n:=((i % 64:Nat):Int)) (by omega) (by omega)
        rw [show ((0:Nat):Int)=0 from rfl] at em
        rw [tm64,em]
        simp only [Qs]
        unfold wdAt
        rw [wd_or]
        obtain ⟨z,e1,z1,z2,z3⟩:=F66.sp (G:=G) fun b=>lf f k (64*(i / 64)+b)||(decide (0≤b)&&decide ((b:Int)<0+((i % 64:Nat):Int)))
        rw [e1]
        simp only [Qs]
        have low:∀ b,b<z→b<64→lf f k (64*(i / 64)+b)=true:=fun b hb hb2=>by
          have:=z2 b hb
          by_cases hbi:b<i % 64
          · exact h1 _ (by omega)
          · rw [decide_eq_false (show ¬ ((b:Int)<0+((i % 64:Nat):Int)) by omega),Bool.and_false,Bool.or_false] at this
            exact this
        by_cases hz:z<64
        · left
          have h3:=z3 hz
          rw [Bool.or_eq_false_iff] at h3
          rw [condD_pos (by omega)]
          simp only [i64w]
          rw [wrap_id (a:=((i / 64:Nat):Int)*64) (by omega) (by omega),wrap_id (by omega) (by omega),show ((i / 64:Nat):Int)*64+(z:Int)=((64*(i / 64)+z:Nat):Int) by omega]
          refine down k (64*(i / 64)+z) hkD (by omega) h3.1 fun p hp=>?_
          by_cases hp2:p<64*(i / 64)
          · exact h1 p (by omega)
          · have:=low (p-64*(i / 64)) (by omega) (by omega)
            rwa [show 64*(i / 64)+(p-64*(i / 64))=p by omega] at this
        · rw [condD_neg (by omega)]
          simp only [i64w]
          rw [wrap_id (a:=(k:Int)+1) (by omega) (by omega),wrap_id (a:=((i / 64:Nat):Int)+1) (by omega) (by omega),show (k:Int)+1=((k+1:Nat):Int) by omega,show ((i / 64:Nat):Int)+1=((i / 64+1:Nat):Int) by omega]
          refine ih (k+1) (i / 64+1) (by omega) (.inr (by omega)) (by omega) fun p hp=>fullB_true.2 fun b hb'=>?_
          by_cases hp2:p<i / 64
          · exact h1 _ (by omega)
          · have:p=i / 64:=by omega
            subst this
            exact low b (by omega) hb'
      · right
        rw [decide_eq_true (by omega),F47.J14_eq,q_ct]
        refine ⟨rfl,lf_all k fun p=>?_⟩
        by_cases hp:p<i
        · exact h1 p hp
        · have:=nw_bc n k
          exact far k p (by omega)
  have key:=up D 0 0 (by omega) (.inl rfl) (by omega) (fun p hp=>by omega)
  have e:CW F47.id [.agg [.int .i64 (n:Int),.sl 1 lid 0 D],.c (.int .i64 0)] G=F47.L29 machW CW ((0:Nat):Int) ((0:Nat):Int) (n:Int) lid 0 D G:=by
    rw [F47.cw]
    unfold F47.f
    rw [condD_neg (by omega),decide_eq_false (by omega),F47.J6_eq,q_cf]
    rfl
  rw [e]
  exact key
theorem F110.sp {n:Nat} {f:Nat→Bool} (t:TrR X G lid D Rk (nw n) (lf f)) (hD1:1≤D) (hn:1≤n∧n≤65536) {i:Nat} (hi:i<n) :
    CW F110.id [.agg [.int .i64 (n:Int),.sl 1 lid 0 D],.c (.int .i64 (i:Int))] G=some ([.c (.bool (f i))],G):=by
  rw [F110.cw]
  unfold F110.f
  have ea:=F119.sp t (size:=(n:Int)) (k:=0) (i:=i / 64) hD1 (nw_up0 hi)
  rw [show ((0:Nat):Int)=0 from rfl] at ea
  rw [condD_pos (by omega),condD_pos (by omega),td64,i64w,wrap_id (by omega) (by omega),ea]
  simp only [Qs]
  rw [u64id (by omega) (by omega),tm64]
  unfold wdAt
  rw [wd_shr _ (by omega),q_bs]
  have e1:(1:Int)=wd fun i=>decide (i=0):=by
    have:=wd_one (k:=0) (by omega)
    rw [(shl1 (k:=0) (by omega)).1] at this
    simpa using this
  have key:decide (IntKind.u64.wrap (((BitVec.ofInt IntKind.u64.bits (wd fun b=>decide (b+i % 64<64)&&lf f 0 (64*(i / 64)+(b+i % 64)))) &&& (BitVec.ofInt IntKind.u64.bits 1)).toNat:Int)=1)=f i:=by
    rw [e1,wd_and]
    rw [Bool.eq_iff_iff,decide_eq_true_eq]
    constructor
    · intro h
      have:=wd_inj h 0 (by omega)
      rw [decide_eq_true (show (0:Nat)=0 from rfl),Bool.and_true,decide_eq_true (by omega),Bool.true_and,show 64*(i / 64)+(0+i % 64)=i by omega] at this
      exact this
    · intro h
      refine wd_congr fun b hb=>?_
      by_cases hb0:b=0
      · subst hb0
        rw [decide_eq_true (show (0:Nat)=0 from rfl),Bool.and_true,decide_eq_true (by omega),Bool.true_and,show 64*(i / 64)+(0+i % 64)=i by omega]
        exact h
      · rw [decide_eq_false hb0,Bool.and_false]
  rw [key]
end Go.Proofs.D.S
/- Slots: which places are taken,class by class. -/
set_option linter.unusedVariables false
set_option linter.unusedSimpArgs false
namespace Go.Proofs.D.S
open Go Go.RowKit
variable {G G' G0 G1:GH} {L R:List (Nat×Obj)} {X Y:List Nat}
theorem Fo.frx {x:Nat} (f:Fo x G G'):FrX (x::X) G G':=⟨f.nx,fun j hj hl=>f.old j (fun _ e=>hj (by rw [e];simp)) hl⟩
theorem FrX.mono (f:FrX X G G') (h:∀ x∈X,x∈Y):FrX Y G G':=⟨f.nx,fun j hj hl=>f.old j (fun k=>hj (h j k)) hl⟩
structure T1 (X:List Nat) (G:GH) (n lid D:Nat) (f:Nat→Bool):Prop where
  d:1≤D∧D≤64
  sz:1≤n∧n≤65536
  top:nw n (D-1)=1
  far:∀ p,n≤p→f p=true
  tr:∃ Rk,TrR X G lid D Rk (nw n) (lf f)
variable {n lid D:Nat} {f:Nat→Bool}
theorem T1.fr (t:T1 X G n lid D f) (h:FrX X G G') (w:G.wf):T1 X G' n lid D f:=⟨t.d,t.sz,t.top,t.far,let ⟨Rk,r⟩:=t.tr;⟨Rk,r.fr h w⟩⟩
theorem T1.keep (t:T1 X G n lid D f) (h:Hp G G' R):T1 X G' n lid D f:=t.fr (FrX.hp h) h.wf0
theorem T1.less (t:T1 X G n lid D f) (h:∀ y∈Y,y∈X):T1 Y G n lid D f :=
  ⟨t.d,t.sz,t.top,t.far,let ⟨Rk,r⟩:=t.tr;⟨Rk,r.row,r.rows,⟨fun k=>r.nx.1 (h _ k),fun k hk j=>r.nx.2 k hk (h _ j)⟩,r.pos⟩⟩
theorem T1.tl {x:Nat} (t:T1 (x::X) G n lid D f):T1 X G n lid D f:=t.less fun y hy=>by simp [hy]
theorem T1.more (t:T1 X G n lid D f) (w:G.wf) {x:Nat} (h:G.next≤x∨x=0):T1 (x::X) G n lid D f :=
  ⟨t.d,t.sz,t.top,t.far,let ⟨Rk,r⟩:=t.tr;⟨Rk,r.row,r.rows,⟨fun k=>by
    rcases List.mem_cons.1 k with k | k
    · have:=row_lt w r.row;have:=r.pos.1;omega
    · exact r.nx.1 k,fun j hj k=>by
    rcases List.mem_cons.1 k with k | k
    · have:=row_lt w (r.rows j hj);have:=r.pos.2 j hj;omega
    · exact r.nx.2 j hj k⟩,r.pos⟩⟩
def eTr (p:Nat×Nat×Nat):List Cell:=[.int .i64 (p.1:Int),.sl 1 p.2.1 0 p.2.2]
instance:Wide 2 eTr:=⟨fun _=>rfl,by decide⟩
def SloR (X:List Nat) (G:GH) (tid C:Nat) (sz:Nat→Nat) (F:Nat→Nat→Bool):Prop :=
  ∃ li Dk:Nat→Nat,Sx X G eTr tid 0 (tab C fun k=>(sz k,li k,Dk k))∧∀ k,k<C→T1 X G (sz k) (li k) (Dk k) (F k)
variable {tid C:Nat} {sz:Nat→Nat} {F:Nat→Nat→Bool}
theorem SloR.fr (s:SloR X G tid C sz F) (h:FrX X G G') (w:G.wf):SloR X G' tid C sz F:=let ⟨li,Dk,a,b⟩:=s;⟨li,Dk,a.fr h w,fun k hk=>(b k hk).fr h w⟩
theorem SloR.keep (s:SloR X G tid C sz F) (h:Hp G G' R):SloR X G' tid C sz F:=s.fr (FrX.hp h) h.wf0
theorem tr_ld {α:Type} {k:Nat} {e:α→List Cell} [W:Wide k e] {C:Nat} {g:Nat→α} {id:Nat} (s:Sl G e id 0 (tab C g)) {i j:Nat} (hi:i<C) (hj:j<k):G.ld id (i*k+j)=(e (g i))[j]?:=by
  have h:=s.ld i j (by simpa using hi) hj
  rw [Nat.zero_add,tab_get (by simpa using hi)] at h
  exact h
theorem T1.set {X:List Nat} (hX:∀ x∈X,x<G.next) {lid' D:Nat} {Rk:Nat→Nat} {f f':Nat→Bool} (t:T1 Y G n lid D f) (t':TrO G.next G' lid' D Rk (nw n) (lf f')) (hf:∀ p,n≤p→f' p=true):T1 X G' n lid' D f' :=
  ⟨t.d,t.sz,t.top,hf,Rk,t'.rd hX⟩
theorem F85.sp (w:G.wf) (s:SloR X G tid C sz F) (hC:C≤64) (hX:Ids G X) :
    ∃ (tid':Nat) (li Dk:Nat→Nat) (G':GH),CW F85.id [.agg [.sl 2 tid 0 C]] G=some ([.agg [.sl 2 tid' 0 C]],G')∧Hp G G' [rowE eTr tid' (tab C fun k=>(sz k,li k,Dk k))]∧(1≤C→G.next≤tid')∧∀ k,k<C→T1 (tid'::X) G' (sz k) (li k) (Dk k) (F k):=by
  obtain ⟨li,Dk,sl,ts⟩:=s
  have hm:(1000:Nat)≤most:=by unfold most;decide
  have lp:∀ (d k:Nat) (G2:GH) (oid:Nat) (li' Dk':Nat→Nat),k+d=C→Hp G G2 [rowE eTr oid (tab k fun k=>(sz k,li' k,Dk' k))]→(1≤k→G.next≤oid)→(∀ j,j<k→T1 (oid::X) G2 (sz j) (li' j) (Dk' j) (F j)) →
      ∃ (tid':Nat) (li Dk:Nat→Nat) (G':GH),F85.L14 machW CW tid 0 C (C:Int) (k:Int) oid 0 k G2=some ([.agg [.sl 2 tid' 0 C]],G')∧Hp G G' [rowE eTr tid' (tab C fun k=>(sz k,li k,Dk k))]∧(1≤C→G.next≤tid')∧∀ k,k<C→T1 (tid'::X) G' (sz k) (li k) (Dk k) (F k):=by
    intro d
    induction d with
    | zero =>
      intro k G2 oid li' Dk' hk h hlo ht
      have:k=C:=by omega
      subst this
      rw [F85.L14_eq,condD_neg (by omega)]
      exact ⟨oid,li',Dk',G2,rfl,h,hlo,ht⟩
    | succ d ih =>
      intro k G2 oid li' Dk' hk h hlo ht
      have hkC:k<C:=by omega
      have s2:=(sl.keep h).1
      have l0:=tr_ld s2 hkC (j:=0) (by omega)
      have l1:=tr_ld s2 hkC (j:=1) (by omega)
      simp only [eTr,List.getElem?_cons_zero,List.getElem?_cons_succ] at l0 l1
      have t1:=(ts k hkC).keep h
      obtain ⟨Rk,tr⟩:=t1.tr
      obtain ⟨lid',R',G3,e3,h3,t3⟩:=F109.sp0 h.wf tr t1.d.2 (fun j=>by have:=nw_le t1.sz.1 j;have:=t1.sz.2;omega) (size:=(sz k:Int))
      have h3':=h.trans0 h3
      obtain ⟨oid',G4,h4,hid,fo,key⟩:=h3'.app1F (S:=Res) (sz k,lid',Dk k) (n:=k) (by simp) (by simp;omega)
      rw [F85.L14_eq,condD_pos (by omega),guardD_of (by omega)]
      simp only [Nat.zero_add,Int.toNat_natCast,l0,l1,Qs,e3]
      simp only [List.length_cons,List.length_nil,if_true,Nat.zero_add,Nat.reduceAdd,Qs]
      simp only [eTr] at key
      rw [key,i64w,wrap_id (by omega) (by omega),show (k:Int)+1=((k+1:Nat):Int) by omega]
      have e5:(tab k fun k=>(sz k,li' k,Dk' k))++[(sz k,lid',Dk k)]=tab (k+1) fun j=>(sz j,if j=k then lid' else li' j,if j=k then Dk k else Dk' j):=by
        rw [tab_succ,if_pos rfl,if_pos rfl]
        congr 1
        exact tab_congr fun j hj=>by rw [if_neg (by omega),if_neg (by omega)]
      rw [e5] at h4
      have hn0:=h.nx
      have hn3:=h3.nx
      refine ih (k+1) G4 oid' _ _ (by omega) h4 (fun _=>by omega) fun j hj=>?_
      have move:∀ {n lid D f},T1 (oid::X) G3 n lid D f→T1 (oid'::X) G4 n lid D f:=fun {n lid D f} t=>by
        have a:=t.more (x:=oid') h3.wf (.inl hid.1)
        have b:=a.fr (G':=G4) (fo.frx.mono (X:=oid::X) fun x hx=>by
          rcases List.mem_cons.1 hx with hx | hx <;> simp [hx]) h3.wf
        exact b.less fun y hy=>by rcases List.mem_cons.1 hy with hy | hy <;> simp [hy]
      by_cases hjk:j=k
      · subst hjk
        rw [if_pos rfl,if_pos rfl]
        refine move ?_
        have ho:=h.idlt (i:=oid) (o:=.row (cells eTr (tab j fun k=>(sz k,li' k,Dk' k))) false) (by simp)
        exact T1.set (X:=oid::X) (fun x hx=>by
          rcases List.mem_cons.1 hx with hx | hx
          · omega
          · have:=hX x hx;omega) t1 t3 t1.far
      · rw [if_neg hjk,if_neg hjk]
        exact move ((ht j (by omega)).keep h3)
  rw [F85.cw]
  unfold F85.f
  exact lp C 0 G 0 (fun _=>0) (fun _=>0) (by omega) (by
    have:=(Hp.refl w).nil0 (e:=eTr)
    exact this) (by omega) (fun j hj=>by omega)
theorem F74.sp (t:T1 X G n lid D f) {i:Nat} (hi:2*i+1<n) :
    CW F74.id [.agg [.int .i64 (n:Int),.sl 1 lid 0 D],.c (.int .i64 (i:Int))] G=some ([.c (.bool (f (2*i)||f (2*i+1)))],G):=by
  obtain ⟨Rk,tr⟩:=t.tr
  have hn:=t.sz
  rw [F74.cw]
  unfold F74.f
  simp only [i64w]
  rw [wrap_id (a:=2*(i:Int)) (by omega) (by omega),wrap_id (by omega) (by omega),show 2*(i:Int)=((2*i:Nat):Int) by omega,show ((2*i:Nat):Int)+1=((2*i+1:Nat):Int) by omega,F110.sp tr t.d.1 hn (by omega)]
  simp only [Qs]
  cases h:f (2*i) with
  | true=>rw [q_ct];rfl
  | false =>
    rw [q_cf,F110.sp tr t.d.1 hn hi]
    simp only [Qs,Bool.false_or]
theorem F67.sp (s:SloR X G tid C sz F) (hC:C≤64) {k:Nat} (hk:k<C) :
    (∃ z:Nat,CW F67.id [.agg [.sl 2 tid 0 C],.c (.int .i64 (k:Int))] G=some ([.c (.int .i64 (z:Int)),.c (.bool true)],G)∧z<sz k∧F k z=false∧∀ p,p<z→F k p=true) ∨
    (CW F67.id [.agg [.sl 2 tid 0 C],.c (.int .i64 (k:Int))] G=some ([.c (.int .i64 0),.c (.bool false)],G)∧∀ p,F k p=true):=by
  obtain ⟨li,Dk,sl,ts⟩:=s
  have l0:=tr_ld sl.1 hk (j:=0) (by omega)
  have l1:=tr_ld sl.1 hk (j:=1) (by omega)
  simp only [eTr,List.getElem?_cons_zero,List.getElem?_cons_succ] at l0 l1
  have t1:=ts k hk
  obtain ⟨Rk,tr⟩:=t1.tr
  have e:∀ (z:Int) (b:Bool),CW F47.id [.agg [.int .i64 (sz k:Int),.sl 1 (li k) 0 (Dk k)],.c (.int .i64 0)] G=some ([.c (.int .i64 z),.c (.bool b)],G) →
      CW F67.id [.agg [.sl 2 tid 0 C],.c (.int .i64 (k:Int))] G=some ([.c (.int .i64 z),.c (.bool b)],G):=fun z b hz=>by
    rw [F67.cw]
    unfold F67.f
    rw [condD_neg (by omega),decide_eq_false (by omega),F67.J6_eq,q_cf,guardD_of (by omega)]
    simp only [Nat.zero_add,Int.toNat_natCast,l0,l1,Qs,hz]
  rcases F47.sp tr t1.d.1 t1.d.2 t1.sz t1.top t1.far with ⟨z,a,b,c,d⟩ | ⟨a,b⟩
  · exact .inl ⟨z,e _ _ a,b,c,d⟩
  · exact .inr ⟨e _ _ a,b⟩
end Go.Proofs.D.S
/- Slots: granules that become live,or not. -/
set_option linter.unusedVariables false
set_option linter.unusedSimpArgs false
namespace Go.Proofs.D.S
open Go Go.RowKit
variable {G G' G0 G1:GH} {L R:List (Nat×Obj)} {X Y:List Nat}
def occ (g:Nat→Bool):Nat→Nat→Bool
  | 0=>g
  | k+1=>fun p=>occ g k (2*p)||occ g k (2*p+1)
theorem occ_iff {g:Nat→Bool}:∀ (k p:Nat),occ g k p=true↔∃ q,p*2 ^ k≤q∧q<p*2 ^ k+2 ^ k∧g q=true
  | 0,p=>by
    simp only [occ,Nat.pow_zero,Nat.mul_one]
    exact ⟨fun h=>⟨p,by omega,by omega,h⟩,fun ⟨q,a,b,c⟩=>by rw [show p=q by omega];exact c⟩
  | k+1,p=>by
    have h1:=occ_iff (g:=g) k (2*p)
    have h2:=occ_iff (g:=g) k (2*p+1)
    have e1:2*p*2 ^ k=p*2 ^ (k+1):=by rw [Nat.pow_succ,Nat.mul_comm 2 p,Nat.mul_assoc,Nat.mul_comm 2]
    have e2:(2*p+1)*2 ^ k=p*2 ^ (k+1)+2 ^ k:=by rw [Nat.add_mul,e1,Nat.one_mul]
    have e3:2 ^ (k+1)=2 ^ k+2 ^ k:=by rw [Nat.pow_succ];omega
    rw [e1] at h1
    rw [e2] at h2
    show (occ g k (2*p)||occ g k (2*p+1))=true↔_
    rw [Bool.or_eq_true,h1,h2,e3]
    constructor
    · rintro (⟨q,a,b,c⟩ | ⟨q,a,b,c⟩)
      · exact ⟨q,a,by omega,c⟩
      · exact ⟨q,by omega,by omega,c⟩
    · rintro ⟨q,a,b,c⟩
      by_cases h:q<p*(2 ^ k+2 ^ k)+2 ^ k
      · exact .inl ⟨q,a,h,c⟩
      · exact .inr ⟨q,by omega,by omega,c⟩
theorem occ_false {g:Nat→Bool} {k p:Nat}:occ g k p=false↔∀ q,p*2 ^ k≤q→q<p*2 ^ k+2 ^ k→g q=false:=by
  rw [← Bool.not_eq_true,occ_iff]
  constructor
  · intro h q a b
    cases hq:g q with
    | false=>rfl
    | true=>exact absurd ⟨q,a,b,hq⟩ h
  · rintro h ⟨q,a,b,c⟩
    rw [h q a b] at c;cases c
def useG (on:Bool) (from_ last:Nat) (g:Nat→Bool):Nat→Bool:=fun q=>if from_≤q∧q≤last then on else g q
section
variable {on:Bool} {from_ last:Nat} {g:Nat→Bool} {k p:Nat}
theorem meets_iff (hfl:from_≤last):(from_ / 2 ^ k≤p∧p≤last / 2 ^ k)↔∃ q,p*2 ^ k≤q∧q<p*2 ^ k+2 ^ k∧from_≤q∧q≤last:=by
  have hp:0<2 ^ k:=Nat.two_pow_pos k
  have a1:p≤last / 2 ^ k↔p*2 ^ k≤last:=Nat.le_div_iff_mul_le hp
  have a2:from_ / 2 ^ k≤p↔from_<p*2 ^ k+2 ^ k:=by
    rw [← Nat.lt_succ_iff,Nat.div_lt_iff_lt_mul hp,Nat.succ_mul]
  rw [a1,a2]
  constructor
  · rintro ⟨h1,h2⟩
    by_cases h:from_≤p*2 ^ k
    · exact ⟨p*2 ^ k,by omega,by omega,h,h2⟩
    · exact ⟨from_,by omega,by omega,by omega,hfl⟩
  · rintro ⟨q,h1,h2,h3,h4⟩;omega
theorem occ_out (hfl:from_≤last) (h:¬ (from_ / 2 ^ k≤p∧p≤last / 2 ^ k)):occ (useG on from_ last g) k p=occ g k p:=by
  rw [Bool.eq_iff_iff,occ_iff,occ_iff]
  have hn:∀ q,p*2 ^ k≤q→q<p*2 ^ k+2 ^ k→useG on from_ last g q=g q:=fun q a b=>if_neg fun c=>h ((meets_iff hfl).2 ⟨q,a,b,c.1,c.2⟩)
  exact ⟨fun ⟨q,a,b,c⟩=>⟨q,a,b,by rw [← hn q a b];exact c⟩,fun ⟨q,a,b,c⟩=>⟨q,a,b,by rw [hn q a b];exact c⟩⟩
theorem occ_in (hfl:from_≤last) (h:from_ / 2 ^ k≤p∧p≤last / 2 ^ k):occ (useG true from_ last g) k p=true:=by
  obtain ⟨q,a,b,c,d⟩:=(meets_iff hfl).1 h
  exact (occ_iff k p).2 ⟨q,a,b,if_pos ⟨c,d⟩⟩
theorem occ_mid (hfl:from_≤last) (h1:from_ / 2 ^ k<p) (h2:p<last / 2 ^ k):occ (useG false from_ last g) k p=false:=by
  have hp:0<2 ^ k:=Nat.two_pow_pos k
  rw [occ_false]
  intro q a b
  have a1:(p+1)*2 ^ k≤last:=(Nat.le_div_iff_mul_le hp).1 h2
  have a2:from_<p*2 ^ k:=(Nat.div_lt_iff_lt_mul hp).1 h1
  rw [Nat.add_mul,Nat.one_mul] at a1
  exact if_pos ⟨by omega,by omega⟩
end
theorem shr64 {a k:Nat} (hk:k≤63):binD .shr .i64 (a:Int) (IntKind.u64.wrap (k:Int))=some ((a / 2 ^ k:Nat):Int):=by
  have hc:((2:Int) ^ k)=((2 ^ k:Nat):Int):=by simp
  rw [u64id (by omega) (by omega)]
  unfold binD
  dsimp only
  rw [if_neg (show ¬ ((k:Int)<0) by omega),Int.toNat_natCast,Nat.min_eq_left (show k≤IntKind.i64.bits by show k≤64;omega),hc,Int.fdiv_eq_ediv_of_nonneg _ (Int.natCast_nonneg _),← Int.natCast_ediv]
variable {n lid D:Nat} {f:Nat→Bool}
variable {tid C:Nat} {sz:Nat→Nat} {F:Nat→Nat→Bool}
theorem T1.congr {f':Nat→Bool} (t:T1 X G n lid D f) (h:∀ p,f p=f' p):T1 X G n lid D f':=by rw [← funext h];exact t
theorem F109.spT (w:G.wf) (t:T1 Y G n lid D f) {from_ cnt_:Nat} {on:Bool} (hf:from_<n) (hc:1≤cnt_∧from_+cnt_≤n) (hX:Ids G X) :
    ∃ lid' G',CW F109.id [.agg [.int .i64 (n:Int),.sl 1 lid 0 D],.c (.int .i64 (from_:Int)),.c (.int .i64 (cnt_:Int)),.c (.bool on)] G=some ([.agg [.int .i64 (n:Int),.sl 1 lid' 0 D]],G')∧Hp G G' [] ∧
      T1 X G' n lid' D (useG on from_ (from_+cnt_-1) f):=by
  obtain ⟨Rk,tr⟩:=t.tr
  have hn:=t.sz
  obtain ⟨lid',R',G',e,h,t'⟩:=F109.sp w tr t.d.1 t.d.2 t.sz (from_:=from_) (cnt_:=cnt_) (last:=from_+cnt_-1) (on:=on) hf ⟨hc.1,by omega⟩ (by omega)
  exact ⟨lid',G',e,h,T1.set hX t t' fun p hp=>by unfold useG;rw [if_neg (by omega)];exact t.far p hp⟩
theorem F97.sp (w:G.wf) {g:Nat→Bool} (s:SloR X G tid C sz (occ g)) (hC:1≤C∧C≤60) (hX:Ids G X) (hsz:∀ k,k+1<C→sz k=2*sz (k+1)) (hpw:∀ k,k<C→sz k*2 ^ k=sz 0)
    {from_ cnt_ last:Nat} {on:Bool} (hf:from_<sz 0) (hc:1≤cnt_∧cnt_≤65536) (hlast:last=from_+min cnt_ (sz 0-from_)-1) (hsz0:sz 0≤65536) :
    ∃ tid' G',CW F97.id [.agg [.sl 2 tid 0 C],.c (.int .i64 (from_:Int)),.c (.int .i64 (cnt_:Int)),.c (.bool on)] G=some ([.agg [.sl 2 tid' 0 C]],G')∧Hp G G' []∧SloR X G' tid' C sz (occ (useG on from_ last g)):=by
  obtain ⟨tid',li,Dk,G1,e1,h1,hid,ts⟩:=F85.sp w s (by omega) hX
  have hid:=hid hC.1
  have hw:=w.2
  have hfl:from_≤last:=by omega
  have hl0:last<sz 0:=by omega
  have s1:=h1.sl0
  have l0:=tr_ld s1 (i:=0) (j:=0) (by omega) (by omega)
  simp only [eTr,List.getElem?_cons_zero,List.getElem?_cons_succ,Nat.zero_mul,Nat.zero_add] at l0
  rw [F97.cw]
  unfold F97.f
  rw [e1]
  simp only [Qs,List.length_cons,List.length_nil,if_true,Nat.zero_add,Nat.reduceAdd]
  rw [condD_neg (by omega),condD_neg (by omega),condD_neg (by omega),guardD_of (by omega)]
  simp only [Int.toNat_zero,Nat.zero_mul,Nat.add_zero,l0,Qs]
  rw [decide_eq_false (by omega),F97.J7_eq,q_cf,guardD_of (by omega)]
  simp only [Int.toNat_zero,Nat.zero_mul,Nat.add_zero,l0,Qs]
  have e2:IntKind.i64.wrap (IntKind.i64.wrap ((from_:Int)+mn2 (cnt_:Int) (IntKind.i64.wrap ((sz 0:Int)-(from_:Int))))-1)=(last:Int):=by
    simp only [i64w]
    rw [wrap_id (a:=(sz 0:Int)-from_) (by omega) (by omega),mn2_eq,wrap_id (a:=(from_:Int)+_) (by omega) (by omega),wrap_id (by omega) (by omega)];omega
  rw [e2]
  let g':=useG on from_ last g
  have lp:∀ (d k:Nat) (G2:GH) (li Dk:Nat→Nat),k+d=C→Hp G G2 [rowE eTr tid' (tab C fun k=>(sz k,li k,Dk k))]→(∀ j,j<C→T1 (tid'::X) G2 (sz j) (li j) (Dk j) (if j<k then occ g' j else occ g j)) →
      ∃ G',F97.L48 machW CW (from_:Int) on (last:Int) tid' 0 C (C:Int) (k:Int) 0 0 0 tid' 0 C G2=some ([.agg [.sl 2 tid' 0 C]],G')∧Hp G G' []∧SloR X G' tid' C sz (occ g'):=by
    intro d
    induction d with
    | zero =>
      intro k G2 li Dk hk h ht
      rw [F97.L48_eq,condD_neg (by omega)]
      exact ⟨G2,rfl,h.nil,li,Dk,h.sx (List.mem_cons_self ..) hX,fun j hj=>by
        have:=ht j hj
        rw [if_pos (by omega)] at this
        exact this.tl⟩
    | succ d ih =>
      intro k G2 li Dk hk h ht
      have hkC:k<C:=by omega
      have hpk:=hpw k hkC
      have h2k:0<2 ^ k:=Nat.two_pow_pos k
      have hlo:from_ / 2 ^ k≤last / 2 ^ k:=Nat.div_le_div_right hfl
      have hhi:last / 2 ^ k<sz k:=(Nat.div_lt_iff_lt_mul h2k).2 (by rw [hpk];exact hl0)
      have omid:on=false→∀ p,from_ / 2 ^ k<p→p<last / 2 ^ k→occ g' k p=false:=fun e p h1 h2=>by subst e;exact occ_mid hfl h1 h2
      have oout:∀ p,¬ (from_ / 2 ^ k≤p∧p≤last / 2 ^ k)→occ g' k p=occ g k p:=fun p h=>occ_out hfl h
      have oin:on=true→∀ p,from_ / 2 ^ k≤p∧p≤last / 2 ^ k→occ g' k p=true:=fun e p h=>by subst e;exact occ_in hfl h
      obtain ⟨lo,elo⟩:∃ lo,from_ / 2 ^ k=lo:=⟨_,rfl⟩
      obtain ⟨hi,ehi⟩:∃ hi,last / 2 ^ k=hi:=⟨_,rfl⟩
      rw [elo,ehi] at hlo omid oout oin
      rw [ehi] at hhi
      have tk:=ht k hkC
      rw [if_neg (by omega)] at tk
      have hszk:=tk.sz
      have hXt:Ids G2 (tid'::X):=fun x hx=>by
        rcases List.mem_cons.1 hx with hx | hx
        · rw [hx];exact h.idlt0
        · have:=hX x hx;have:=h.nx;omega
      have s2:=h.sl0
      have l0:=tr_ld s2 hkC (j:=0) (by omega)
      have l1:=tr_ld s2 hkC (j:=1) (by omega)
      simp only [eTr,List.getElem?_cons_zero,List.getElem?_cons_succ] at l0 l1
      obtain ⟨lid1,G3,e3,h3,t3⟩:=F109.spT h.wf tk (from_:=lo) (cnt_:=hi-lo+1) (on:=on) (by omega) ⟨by omega,by omega⟩ hXt
      rw [show lo+(hi-lo+1)-1=hi by omega] at t3
      rw [F97.L48_eq,condD_pos (by omega),guardD_of (by omega)]
      simp only [Nat.zero_add,Int.toNat_natCast,l0,l1,Qs]
      rw [shr64 (by omega),q_bs,shr64 (by omega),q_bs,elo,ehi]
      have ec:IntKind.i64.wrap (IntKind.i64.wrap (((hi:Nat):Int)-((lo:Nat):Int))+1)=((hi-lo+1:Nat):Int):=by
        simp only [i64w]
        rw [wrap_id (a:=((hi:Nat):Int)-((lo:Nat):Int)) (by omega) (by omega),wrap_id (by omega) (by omega)];omega
      rw [ec,e3]
      simp only [Qs,List.length_cons,List.length_nil,if_true,Nat.zero_add,Nat.reduceAdd]
      have hA:=(h.trans0 h3)
      have h4:=hA.alloc (.row [.int .i64 ((lo:Nat):Int),.int .i64 ((hi:Nat):Int)] false)
      have hpid:G3.next≠0:=by have:=h3.wf.2;omega
      have t4:=t3.keep ((Hp.refl h3.wf).alloc (.row [.int .i64 ((lo:Nat):Int),.int .i64 ((hi:Nat):Int)] false))
      have ht4:∀ j,j<C→T1 (tid'::X) (G3.alloc (.row [.int .i64 ((lo:Nat):Int),.int .i64 ((hi:Nat):Int)] false)) (sz j) (li j) (Dk j) (if j<k then occ g' j else occ g j):=fun j hj=>((ht j hj).keep h3).keep ((Hp.refl h3.wf).alloc (.row [.int .i64 ((lo:Nat):Int),.int .i64 ((hi:Nat):Int)] false))
      have hX4:Ids (G3.alloc (.row [.int .i64 ((lo:Nat):Int),.int .i64 ((hi:Nat):Int)] false)) (tid'::X):=(hXt.hp h3).hp ((Hp.refl h3.wf).alloc (.row [.int .i64 ((lo:Nat):Int),.int .i64 ((hi:Nat):Int)] false))
      generalize G3.next=pid at h4 hpid ⊢
      generalize G3.alloc (.row [.int .i64 ((lo:Nat):Int),.int .i64 ((hi:Nat):Int)] false)=G4 at h4 t4 ht4 hX4 ⊢
      clear t3 e3 hA h3 h tk ht s2 l0 l1 hXt
      have fin:∀ (lid:Nat) (G5:GH) (R:List (Nat×Obj)),Hp G4 G5 R→T1 (tid'::X) G5 (sz k) lid (Dk k) (occ g' k) →
          ∃ G',F97.L35 machW CW (from_:Int) on (last:Int) (k:Int) tid' 0 C (C:Int) (k:Int) pid 0 2 2 2 0 0 0 tid' 0 C (sz k:Int) lid 0 (Dk k) G5=some ([.agg [.sl 2 tid' 0 C]],G')∧Hp G G' []∧SloR X G' tid' C sz (occ g'):=by
        intro lid G5 R h5 t5
        have h6:Hp G G5 [rowE eTr tid' (tab C fun k=>(sz k,li k,Dk k))]:=(h4.trans0 h5.nil).tl
        obtain ⟨G6,h7,e7⟩:=h6.put (i:=k) (by simpa using hkC) (sz k,lid,Dk k) (off:=k*2) (new:=[.int .i64 (sz k:Int),.sl 1 lid 0 (Dk k)]) rfl rfl
        have fr6:FrX (tid'::X) G5 G6:=by
          unfold GH.sts at e7
          obtain ⟨cs,_,e7⟩:=Option.bind_eq_some_iff.1 e7
          split at e7
          · cases e7;exact FrX.set (by simp)
          · cases e7
        rw [tab_set] at h7
        rw [F97.L35_eq,condD_neg (by omega),guardD_of (by omega)]
        simp only [Nat.zero_add,Int.toNat_natCast,e7,Qs]
        rw [i64w,wrap_id (by omega) (by omega),show (k:Int)+1=((k+1:Nat):Int) by omega]
        have e8:(tab C fun j=>if j=k then (sz k,lid,Dk k) else (sz j,li j,Dk j))=tab C fun j=>(sz j,if j=k then lid else li j,Dk j):=tab_congr fun j hj=>by
          by_cases hjk:j=k
          · subst hjk;rw [if_pos rfl,if_pos rfl]
          · rw [if_neg hjk,if_neg hjk]
        rw [e8] at h7
        refine ih (k+1) G6 _ Dk (by omega) h7 fun j hj=>?_
        by_cases hjk:j=k
        · subst hjk
          rw [if_pos rfl,if_pos (by omega)]
          exact t5.fr fr6 h5.wf
        · rw [if_neg hjk]
          have:=((ht4 j hj).keep h5).fr fr6 h5.wf
          by_cases hj2:j<k
          · rw [if_pos hj2] at this;rw [if_pos (by omega)];exact this
          · rw [if_neg hj2] at this;rw [if_neg (by omega)];exact this
      have p0:∀ {G5:GH} {R:List (Nat×Obj)},Hp G4 G5 R→G5.ld pid 0=some (.int .i64 ((lo:Nat):Int))∧G5.ld pid 1=some (.int .i64 ((hi:Nat):Int)):=fun {G5 R} h5=>by
        have h6:=h4.trans0 h5.nil
        exact ⟨by rw [h6.ld hpid];rfl,by rw [h6.ld hpid];rfl⟩
      have q0:=p0 (Hp.refl h4.wf)
      rw [F97.L35_eq,condD_pos (by omega),guardD_of (by omega)]
      simp only [Int.toNat_zero,Nat.zero_mul,Nat.add_zero,q0.1,Qs]
      by_cases hup:0<k∧on=false
      · obtain ⟨hk0,rfl⟩:=hup
        have hsk:sz (k-1)=2*sz k:=by have:=hsz (k-1) (by omega);rwa [show k-1+1=k by omega] at this
        have tb:∀ {G5:GH} {R:List (Nat×Obj)},Hp G4 G5 R→T1 (tid'::X) G5 (sz (k-1)) (li (k-1)) (Dk (k-1)) (occ g' (k-1)):=fun {G5 R} h5=>by
          have:=(ht4 (k-1) (by omega)).keep h5
          rwa [if_pos (by omega)] at this
        have lb:∀ {G5:GH} {R:List (Nat×Obj)},Hp G4 G5 R→G5.ld tid' ((k-1)*2)=some (.int .i64 (sz (k-1):Int))∧G5.ld tid' ((k-1)*2+1)=some (.sl 1 (li (k-1)) 0 (Dk (k-1))):=fun {G5 R} h5=>by
          have s5:=(h4.trans0 h5.nil).tl.sl0
          have l0:=tr_ld s5 (show k-1<C by omega) (j:=0) (by omega)
          have l1:=tr_ld s5 (show k-1<C by omega) (j:=1) (by omega)
          simp only [eTr,List.getElem?_cons_zero,List.getElem?_cons_succ,Nat.add_zero] at l0 l1
          exact ⟨l0,l1⟩
        have key:∀ i,occ g' k i=(occ g' (k-1) (2*i)||occ g' (k-1) (2*i+1)):=fun i=>by
          conv=>lhs;rw [show k=(k-1)+1 by omega]
          rfl
        have one:∀ (i:Nat) (lid:Nat) (f:Nat→Bool) (G5:GH),i<sz k→Hp G4 G5 []→T1 (tid'::X) G5 (sz k) lid (Dk k) f→∃ lid' G6,Hp G4 G6 []∧T1 (tid'::X) G6 (sz k) lid' (Dk k) (fun p=>if p=i then occ g' k i else f p) ∧
            ∀ (a b c:Nat) (ix:Int),F97.J27 machW CW (from_:Int) false (last:Int) (k:Int) (i:Int) tid' 0 C (C:Int) (k:Int) a b c 2 ix true 0 0 0 tid' 0 C (sz k:Int) lid 0 (Dk k) G5=F97.J31 machW CW (from_:Int) false (last:Int) (k:Int) tid' 0 C (C:Int) (k:Int) a b c 2 ix 0 0 0 tid' 0 C (sz k:Int) lid' 0 (Dk k) G6:=by
          intro i lid f G5 hi h5 t5
          have lb5:=lb h5
          obtain ⟨lid',G6,e6,h6,t6⟩:=F109.spT h5.wf t5 (from_:=i) (cnt_:=1) (on:=occ g' k i) hi ⟨Nat.le_refl _,by omega⟩ (hX4.hp h5)
          refine ⟨lid',G6,h5.trans0 h6,t6.congr fun p=>?_,fun a b c ix=>?_⟩
          · unfold useG
            by_cases hp:p=i
            · rw [if_pos (by omega),if_pos hp]
            · rw [if_neg (by omega),if_neg hp]
          · rw [F97.J27_eq,q_ct,i64w,wrap_id (by omega) (by omega),guardD_of (by omega),show (k:Int)-1=((k-1:Nat):Int) by omega]
            simp only [Nat.zero_add,Nat.add_zero,Int.toNat_natCast,lb5.1,lb5.2,Qs]
            rw [F74.sp (tb h5) (by omega)]
            simp only [Qs]
            rw [← key i,show (1:Int)=((1:Nat):Int) from rfl,e6]
            simp only [Qs,List.length_cons,List.length_nil,if_true,Nat.zero_add,Nat.reduceAdd]
        obtain ⟨lid2,G5,h5,t5,e5⟩:=one (lo) lid1 _ G4 (by omega) (Hp.refl h4.wf) t4
        obtain ⟨lid3,G6,h6,t6,e6⟩:=one (hi) lid2 _ G5 (by omega) h5 t5
        have q5:=p0 h5
        rw [condD_pos (by omega),q_nf,e5,F97.J31_eq,i64w,wrap_id (by omega) (by omega),F97.L35_eq,condD_pos (by omega),guardD_of (by omega)]
        simp only [Int.zero_add,show Int.toNat (1:Int)=1 from rfl,Nat.one_mul,Nat.zero_add,q5.2,Qs]
        rw [condD_pos (by omega),e6,F97.J31_eq,i64w,wrap_id (by omega) (by omega)]
        refine fin lid3 G6 [] h6 (t6.congr fun p=>?_)
        by_cases hp1:p=hi
        · rw [if_pos hp1,hp1]
        · rw [if_neg hp1]
          by_cases hp2:p=lo
          · rw [if_pos hp2,hp2]
          · rw [if_neg hp2]
            unfold useG
            by_cases hp3:lo≤p∧p≤hi
            · rw [if_pos hp3];exact (omid rfl p (by omega) (by omega)).symm
            · rw [if_neg hp3];exact (oout p hp3).symm
      · have tf:T1 (tid'::X) G4 (sz k) lid1 (Dk k) (occ g' k):=t4.congr fun p=>by
          unfold useG
          by_cases hp:lo≤p∧p≤hi
          · rw [if_pos hp]
            cases on with
            | true=>exact (oin rfl p hp).symm
            | false =>
              have hk0:k=0:=by
                rcases Nat.eq_zero_or_pos k with h | h
                · exact h
                · exact absurd ⟨h,rfl⟩ hup
              subst hk0
              show false=useG false from_ last g p
              rw [Nat.pow_zero,Nat.div_one] at elo ehi
              unfold useG
              rw [if_pos (by omega)]
          · rw [if_neg hp];exact (oout p hp).symm
        have stay:∀ (i a b c:Nat) (ix:Int),(bif decide ((k:Int)>0) then F97.J27 machW CW (from_:Int) on (last:Int) (k:Int) (i:Int) tid' 0 C (C:Int) (k:Int) a b c 2 ix (!on) 0 0 0 tid' 0 C (sz k:Int) lid1 0 (Dk k) G4 else F97.J27 machW CW (from_:Int) on (last:Int) (k:Int) (i:Int) tid' 0 C (C:Int) (k:Int) a b c 2 ix false 0 0 0 tid' 0 C (sz k:Int) lid1 0 (Dk k) G4) =
            F97.J31 machW CW (from_:Int) on (last:Int) (k:Int) tid' 0 C (C:Int) (k:Int) a b c 2 ix 0 0 0 tid' 0 C (sz k:Int) lid1 0 (Dk k) G4:=fun i a b c ix=>by
          by_cases hk0:0<k
          · cases on with
            | true=>rw [condD_pos (by omega),F97.J27_eq,q_nt,q_cf]
            | false=>exact absurd ⟨hk0,rfl⟩ hup
          · rw [condD_neg (by omega),F97.J27_eq,q_cf]
        rw [stay,F97.J31_eq,i64w,wrap_id (by omega) (by omega),F97.L35_eq,condD_pos (by omega),guardD_of (by omega)]
        simp only [Int.zero_add,show Int.toNat (1:Int)=1 from rfl,Nat.one_mul,Nat.zero_add,q0.2,Qs]
        rw [stay,F97.J31_eq,i64w,wrap_id (by omega) (by omega)]
        exact fin lid1 G4 [] (Hp.refl h4.wf) tf
  obtain ⟨G',e,h,s'⟩:=lp C 0 G1 li Dk (by omega) h1 (fun j hj=>by rw [if_neg (by omega)];exact ts j hj)
  exact ⟨tid',G',e,h,s'⟩
end Go.Proofs.D.S
/- Which block begins where: the marks. -/
set_option linter.unusedVariables false
set_option linter.unusedSimpArgs false
namespace Go.Proofs.D.S
open Go Go.RowKit
variable {G G' G0 G1:GH} {L R:List (Nat×Obj)} {X Y:List Nat}
def eMk (p:Int×Int):List Cell:=[.int .i64 p.1,.int .i64 p.2]
instance:Wide 2 eMk:=⟨fun _=>rfl,by decide⟩
def Nl {α:Type} (id:Nat) (xs:List α):Prop:=id≠0∨xs=[]
theorem F2.sp {id:Nat} {xs:List (Int×Int)} (w:G.wf) (hid:Nl id xs) (s:Sl G eMk id 0 xs) (hl:xs.length≤1000000000) :
    ∃ id' G',CW F2.id [.c (.sl 2 id 0 xs.length)] G=some ([.c (.sl 2 id' 0 xs.length)],G')∧Hp G G' [rowE eMk id' xs]:=by
  have hm:(1000000000:Nat)≤most:=by unfold most;decide
  rw [F2.cw]
  unfold F2.f
  by_cases h0:id=0
  · subst h0
    rcases hid with h | h
    · exact absurd rfl h
    subst h
    exact ⟨0,G,rfl,(Hp.refl w).nil0⟩
  obtain ⟨id',G',h,_,key⟩:=clone_row (R:=Res) w s (by omega)
  refine ⟨id',G',?_,h⟩
  rw [show Nat.beq id 0=false from by cases h:Nat.beq id 0 with | false=>rfl | true=>exact absurd (Nat.eq_of_beq_eq_true h) h0,q_xf,q_cf]
  dsimp only
  rw [key]
  simp only [Nat.zero_add]
def Ris (ms:List (Int×Int)):Prop:=ms.Pairwise fun a b=>a.1<b.1
def cmpS (a b:Int):Int:=if a<b then -1 else if a>b then 1 else 0
theorem F45.sp {a b:Int}:CW F45.id [.c (.int .i64 a),.c (.int .i64 b)] G=some ([.c (.int .i64 (cmpS a b))],G):=by
  have hn:∀ x:Int,CW F64.id [.c (.int .i64 x)] G=some ([.c (.bool false)],G):=fun x=>by
    rw [F64.cw];unfold F64.f;rw [decide_eq_true rfl];rfl
  rw [F45.cw]
  unfold F45.f
  rw [hn,q_bs]
  simp only [Qs]
  rw [hn,q_bs]
  simp only [Qs]
  unfold cmpS
  by_cases h1:a<b
  · rw [condD_pos h1,if_pos h1]
  · rw [condD_neg h1,if_neg h1]
    by_cases h2:a>b
    · rw [condD_pos h2,if_pos h2]
    · rw [condD_neg h2,if_neg h2]
theorem F80.sp {a b c:Int}:CW F80.id [.agg [.int .i64 a,.int .i64 b],.c (.int .i64 c)] G=some ([.c (.int .i64 (cmpS a c))],G):=by
  rw [F80.cw]
  unfold F80.f
  rw [F45.sp]
  simp only [Qs]
theorem F98.sp {id:Nat} {ms:List (Int×Int)} (s:Sl G eMk id 0 ms) (ris:Ris ms) (hl:ms.length≤1000000) {at_:Int} :
    ∃ i:Nat,i≤ms.length∧(∀ (p:Nat) (h:p<ms.length),p<i→ms[p].1<at_)∧(∀ (p:Nat) (h:p<ms.length),i≤p→at_≤ms[p].1) ∧
      CW F98.id [.c (.sl 2 id 0 ms.length),.c (.int .i64 at_)] G=some ([.c (.int .i64 (i:Int)),.c (.bool (decide (∃ h:i<ms.length,ms[i].1=at_)))],G):=by
  have hr:∀ (p q:Nat) (hp:p<ms.length) (hq:q<ms.length),p<q→ms[p].1<ms[q].1:=fun p q hp hq h=>List.pairwise_iff_getElem.1 ris p q hp hq h
  have ld:∀ p (hp:p<ms.length),G.ld id (p*2)=some (.int .i64 ms[p].1)∧G.ld id (p*2+1)=some (.int .i64 ms[p].2):=fun p hp=>by
    have a:=s.ld p 0 hp (by omega)
    have b:=s.ld p 1 hp (by omega)
    rw [Nat.zero_add,Nat.add_zero] at a
    rw [Nat.zero_add] at b
    exact ⟨a,b⟩
  have lp:∀ (d i j:Nat),j-i≤d→i≤j→j≤ms.length→(∀ (p:Nat) (h:p<ms.length),p<i→ms[p].1<at_)→(∀ (p:Nat) (h:p<ms.length),j≤p→at_≤ms[p].1) →
      ∃ z:Nat,z≤ms.length∧(∀ (p:Nat) (h:p<ms.length),p<z→ms[p].1<at_)∧(∀ (p:Nat) (h:p<ms.length),z≤p→at_≤ms[p].1) ∧
        F68.L17 machW CW id 0 ms.length at_ F80.id (ms.length:Int) (i:Int) (j:Int) G=some ([.c (.int .i64 (z:Int)),.c (.bool (decide (∃ h:z<ms.length,ms[z].1=at_)))],G):=by
    intro d
    induction d with
    | zero =>
      intro i j hd hij hj hlo hhi
      have:i=j:=by omega
      subst this
      refine ⟨i,hj,hlo,hhi,?_⟩
      rw [F68.L17_eq,condD_neg (by omega)]
      by_cases hil:i<ms.length
      · obtain ⟨l0,l1⟩:=ld i hil
        rw [condD_pos (by omega),guardD_of (by omega)]
        simp only [Nat.zero_add,Nat.add_zero,Int.toNat_natCast,l0,l1,Qs]
        rw [F80.sp,q_bs]
        simp only [List.length_cons,List.length_nil,Nat.zero_add,show Nat.beq 1 1=true from rfl,chk,Qs]
        have h1:=hhi i hil (Nat.le_refl _)
        have e:decide (cmpS ms[i].1 at_=0)=decide (∃ h:i<ms.length,ms[i].1=at_):=by
          refine decide_eq_decide.2 ?_
          unfold cmpS
          rw [if_neg (by omega)]
          constructor
          · intro h
            refine ⟨hil,?_⟩
            by_cases h2:ms[i].1>at_
            · rw [if_pos h2] at h;cases h
            · omega
          · rintro ⟨_,h⟩
            rw [if_neg (by omega)]
        rw [e]
      · rw [condD_neg (by omega),decide_eq_false fun ⟨h,_⟩=>hil h]
    | succ d ih =>
      intro i j hd hij hj hlo hhi
      by_cases hlt:i<j
      · have hh:IntKind.i64.wrap (Int.fdiv (IntKind.u64.wrap (IntKind.i64.wrap ((i:Int)+(j:Int)))) (2 ^ (min (1:Int).toNat IntKind.u64.bits)))=(((i+j) / 2:Nat):Int):=by
          rw [show (2:Int) ^ (min (1:Int).toNat IntKind.u64.bits)=2 by decide]
          simp only [i64w]
          rw [wrap_id (a:=(i:Int)+(j:Int)) (by omega) (by omega),u64id (by omega) (by omega),Int.fdiv_eq_ediv_of_nonneg _ (by omega),wrap_id (by omega) (by omega)]
          omega
        have hm:(i+j) / 2<ms.length:=by omega
        obtain ⟨l0,l1⟩:=ld _ hm
        rw [F68.L17_eq,condD_pos (by omega),hh,guardD_of (by omega)]
        simp only [Nat.zero_add,Nat.add_zero,Int.toNat_natCast,l0,l1,Qs]
        rw [F80.sp,q_bs]
        simp only [List.length_cons,List.length_nil,Nat.zero_add,show Nat.beq 1 1=true from rfl,chk,Qs]
        by_cases hc:ms[(i+j) / 2].1<at_
        · rw [condD_pos (by unfold cmpS;rw [if_pos hc];decide),i64w,wrap_id (by omega) (by omega),show (((i+j) / 2:Nat):Int)+1=(((i+j) / 2+1:Nat):Int) by omega]
          refine ih _ j (by omega) (by omega) hj (fun p hp hpi=>?_) hhi
          by_cases hpe:p=(i+j) / 2
          · subst hpe;exact hc
          · have:=hr p _ hp hm (by omega);omega
        · rw [condD_neg (by unfold cmpS;rw [if_neg hc];split <;> decide)]
          refine ih i _ (by omega) (by omega) (by omega) hlo fun p hp hpi=>?_
          by_cases hpe:p=(i+j) / 2
          · subst hpe;omega
          · have:=hr _ p hm hp (by omega);omega
      · exact ih i j (by omega) hij hj hlo hhi
  obtain ⟨z,h1,h2,h3,h4⟩:=lp ms.length 0 ms.length (by omega) (by omega) (Nat.le_refl _) (fun p h hp=>by omega) (fun p h hp=>by omega)
  refine ⟨z,h1,h2,h3,?_⟩
  have e:CW F68.id [.c (.sl 2 id 0 ms.length),.c (.int .i64 at_),.c (.fn F80.id)] G=some ([.c (.int .i64 (z:Int)),.c (.bool (decide (∃ h:z<ms.length,ms[z].1=at_)))],G):=by
    rw [F68.cw]
    unfold F68.f
    exact h4
  rw [F98.cw]
  unfold F98.f
  rw [e]
  simp only [Qs]
def insM (ms:List (Int×Int)) (i:Nat) (m:Int×Int):List (Int×Int):=ms.take i++m::ms.drop i
theorem Nl.new {id:Nat} {xs:List (Int×Int)} (h:Hp G G' [rowE eMk id xs]):Nl id xs:=by
  by_cases h0:id=0
  · right
    subst h0
    rcases h.ok _ (List.mem_cons_self ..) with ⟨_,b⟩ | ⟨_,b,_⟩
    · simp only [rowE,Obj.row.injEq,and_true] at b;exact cells_nil b
    · simp at b
  · exact .inl h0
theorem F111.sp (w:G.wf) {id:Nat} {ms:List (Int×Int)} (nl:Nl id ms) (s:Sx X G eMk id 0 ms) (ris:Ris ms) (hl:ms.length≤1000000) {at_ cl:Int} (hne:∀ m∈ms,m.1≠at_) (hX:Ids G X) :
    ∃ (i id':Nat) (G':GH),CW F111.id [.c (.sl 2 id 0 ms.length),.agg [.int .i64 at_,.int .i64 cl]] G=some ([.c (.sl 2 id' 0 (ms.length+1))],G')∧Hp G G' []∧Sx X G' eMk id' 0 (insM ms i (at_,cl))∧id'≠0 ∧
      i≤ms.length∧(∀ (p:Nat) (h:p<ms.length),p<i→ms[p].1<at_)∧(∀ (p:Nat) (h:p<ms.length),i≤p→at_<ms[p].1):=by
  have hm:(1000001:Nat)≤most:=by unfold most;decide
  obtain ⟨cid,G1,e1,h1⟩:=F2.sp w nl s.1 (by omega)
  obtain ⟨i,f1,f2,f3,f4⟩:=F98.sp (s.keep h1).1 ris hl (at_:=at_)
  have nf:¬ ∃ h:i<ms.length,ms[i].1=at_:=fun ⟨h,e⟩=>hne _ (List.getElem_mem h) e
  rw [decide_eq_false nf] at f4
  have f3':∀ (p:Nat) (h:p<ms.length),i≤p→at_<ms[p].1:=fun p h hp=>by
    have:=f3 p h hp
    have:=hne _ (List.getElem_mem h)
    omega
  have nl1:=Nl.new h1
  have h2:=h1.alloc (.row [.int .i64 at_,.int .i64 cl] false)
  have hq:G1.next≠0:=by have:=h1.wf.2;omega
  have g2:=(h2.hd hq).2
  have hid1:=h1.idlt0
  rw [F111.cw]
  unfold F111.f
  rw [e1]
  simp only [Qs]
  rw [f4]
  simp only [Qs]
  rw [F0.cw]
  unfold F0.f insD
  have lds:(G1.alloc (.row [.int .i64 at_,.int .i64 cl] false)).lds G1.next 0 (1*2)=some [.int .i64 at_,.int .i64 cl]:=by
    unfold GH.lds;rw [row_row g2,Option.bind_some];rfl
  have ownq:((G1.alloc (.row [.int .i64 at_,.int .i64 cl] false)).own G1.next).isSome=true:=by unfold GH.own;rw [g2];rfl
  rw [ownq,decide_eq_true (show (0:Int)≤(i:Int)∧(i:Int)≤((ms.length:Nat):Int) by omega),decide_eq_true (show cid≠G1.next by omega),decide_eq_true (show ms.length+1≤most by omega),lds]
  simp only [decide_true,Bool.and_self,Nat.zero_lt_one,guardK_true,Option.bind_some]
  have ei:insM ms i (at_,cl)=ms.take i++(at_,cl)::ms.drop i:=rfl
  by_cases hc0:cid=0
  · rcases nl1 with h | h
    · exact absurd hc0 h
    subst h
    have hi0:i=0:=by simpa using f1
    subst hi0
    have h3:=h2.tl.tl.alloc (.row (cells eMk [(at_,cl)]) false)
    rw [if_pos hc0]
    simp only [List.length_nil,decide_true,guardK_true,Qs]
    exact ⟨0,_,_,rfl,h3.nil,h3.sx (e:=eMk) (xs:=[(at_,cl)]) (List.mem_cons_self ..) hX,by simp only [GH.next_alloc];omega,Nat.le_refl _,fun p h=>by simp at h,fun p h=>by simp at h⟩
  · have h2':Hp G (G1.alloc (.row [.int .i64 at_,.int .i64 cl] false)) (rowE eMk cid ms::[(G1.next,.row [.int .i64 at_,.int .i64 cl] false)]):=h2.perm (List.Perm.swap _ _ _)
    have gc:=(h2'.hd hc0).2
    have h3:=(h2'.free hc0).alloc (.row (cells eMk (insM ms i (at_,cl))) false)
    rw [if_neg hc0,own_row gc]
    simp only [Option.bind_some,Nat.zero_add,cells_len,decide_true,guardK_true,List.drop_zero,Int.toNat_natCast,Qs]
    have ec:(cells eMk ms).take (i*2)++[.int .i64 at_,.int .i64 cl]++(cells eMk ms).drop (i*2)=cells eMk (insM ms i (at_,cl)):=by
      rw [cells_take,cells_drop,ei,cells_app]
      simp [cells,eMk]
    rw [ec]
    exact ⟨i,_,_,rfl,h3.nil,h3.sx (e:=eMk) (List.mem_cons_self ..) hX,by simp only [GH.next_set,GH.next_alloc];omega,f1,f2,f3'⟩
theorem F101.sp (w:G.wf) {id:Nat} {ms:List (Int×Int)} (hid:id≠0) (s:Sx X G eMk id 0 ms) (ris:Ris ms) (hl:ms.length≤1000000) {i:Nat} (hi:i<ms.length) (hX:Ids G X) :
    ∃ (id':Nat) (G':GH),CW F101.id [.c (.sl 2 id 0 ms.length),.c (.int .i64 ms[i].1)] G=some ([.c (.sl 2 id' 0 (ms.length-1)),.c (.int .i64 ms[i].2),.c (.bool true)],G')∧Hp G G' []∧Sx X G' eMk id' 0 (ms.take i++ms.drop (i+1))∧id'≠0:=by
  obtain ⟨cid,G1,e1,h1⟩:=F2.sp w (.inl hid) s.1 (by omega)
  obtain ⟨z,f1,f2,f3,f4⟩:=F98.sp (s.keep h1).1 ris hl (at_:=ms[i].1)
  have hr:∀ (p q:Nat) (hp:p<ms.length) (hq:q<ms.length),p<q→ms[p].1<ms[q].1:=fun p q hp hq h=>List.pairwise_iff_getElem.1 ris p q hp hq h
  have hz:z=i:=by
    rcases Nat.lt_trichotomy z i with h | h | h
    · have a:=f3 z (by omega) (Nat.le_refl _);have b:=hr z i (by omega) hi h;omega
    · exact h
    · have a:=f2 i hi h;omega
  subst hz
  rw [decide_eq_true ⟨hi,rfl⟩] at f4
  have hc0:cid≠0:=by
    rcases Nl.new h1 with h | h
    · exact h
    · subst h;simp at hi
  obtain ⟨hb,gc⟩:=h1.hd hc0
  have l1:∀ {G2:GH} {R:List (Nat×Obj)},Hp G G2 R→G2.ld id (z*2+1)=some (.int .i64 ms[z].2):=fun {G2 R} h=>by
    have b:=(s.keep h).1.ld z 1 hi (by omega)
    rw [Nat.zero_add] at b
    exact b
  rw [F101.cw]
  unfold F101.f
  rw [e1]
  simp only [Qs]
  rw [f4]
  simp only [Qs]
  rw [guardD_of (by omega)]
  simp only [Nat.zero_add,Int.toNat_natCast,l1 h1,Qs]
  rw [i64w,wrap_id (by omega) (by omega),F1.cw]
  unfold F1.f delD
  rw [guardD_of (by omega),own_row gc,Option.bind_some,guardD_of (by rw [cells_len];omega),Option.bind_some]
  have en:((z:Int)+1).toNat=z+1:=by omega
  have h2:=h1.set (o':=.row (splice (cells eMk ms) (0+(z:Int).toNat*2) ((((cells eMk ms).drop (0+((z:Int)+1).toNat*2)).take ((ms.length-((z:Int)+1).toNat)*2))++reps (((z:Int)+1).toNat-(z:Int).toNat) [.int .i64 0,.int .i64 0])) false) hc0
  have g2:=(h2.hd hc0).2
  simp only [Qs]
  rw [l1 h2]
  simp only [Qs]
  rw [guardD_of trivial]
  have elen:ms.length-(((z:Int)+1).toNat-(z:Int).toNat)=ms.length-1:=by omega
  rw [elen]
  refine ⟨cid,_,rfl,h2.nil,⟨.inr ⟨_,row_row g2,?_,?_⟩,.inr fun hx=>by have:=hX _ hx;omega⟩,hc0⟩
  · rw [en,Int.toNat_natCast,show z+1-z=1 by omega]
    simp only [Nat.zero_add]
    rw [cells_drop,cells_take]
    simp only [splice,List.length_append,List.length_take,List.length_drop,cells_len,reps,List.replicate_succ,List.replicate_zero,List.flatten_cons,List.flatten_nil,List.length_cons,List.length_nil,List.append_nil]
    omega
  · have e5:splice (cells eMk ms) (z*2) (((cells eMk ms).drop ((z+1)*2)).take ((ms.length-(z+1))*2)++reps 1 [.int .i64 0,.int .i64 0])=cells eMk (ms.take z++ms.drop (z+1))++reps 1 [.int .i64 0,.int .i64 0]++(cells eMk ms).drop (ms.length*2):=by
      simp only [splice]
      rw [cells_drop,cells_take,cells_take,cells_app,List.take_of_length_le (l:=ms.drop (z+1)) (by rw [List.length_drop];omega)]
      have el:z*2+(cells eMk (ms.drop (z+1))++reps 1 [.int .i64 0,.int .i64 0]).length=ms.length*2:=by
        rw [List.length_append,cells_len,List.length_drop]
        simp only [reps,List.replicate_succ,List.replicate_zero,List.flatten_cons,List.flatten_nil,List.append_nil,List.length_cons,List.length_nil]
        omega
      rw [el]
      simp only [List.append_assoc]
    rw [en,Int.toNat_natCast,show z+1-z=1 by omega]
    simp only [Nat.zero_add]
    rw [List.drop_zero,e5,List.append_assoc,List.take_left']
    rfl
end Go.Proofs.D.S
/- The engine: a block is placed,or goes. -/
set_option linter.unusedVariables false
set_option linter.unusedSimpArgs false
namespace Go.Proofs.D.S
open Go Go.RowKit
variable {G G' G0 G1:GH} {L R:List (Nat×Obj)} {X Y:List Nat}
theorem shl64 {a k:Nat} (hk:k≤63) (h:a*2 ^ k≤4611686018427387904):binD .shl .i64 (a:Int) (IntKind.u64.wrap (k:Int))=some ((a*2 ^ k:Nat):Int):=by
  have hc:((2:Int) ^ k)=((2 ^ k:Nat):Int):=by simp
  rw [u64id (by omega) (by omega)]
  unfold binD
  dsimp only
  rw [if_neg (show ¬ ((k:Int)<0) by omega),Int.toNat_natCast,Nat.min_eq_left (show k≤IntKind.i64.bits by show k≤64;omega),hc,← Int.natCast_mul,i64w]
  generalize a*2 ^ k=P at *
  rw [wrap_id (by omega) (by omega)]
structure SzOk (C:Nat) (sz:Nat→Nat):Prop where
  c:1≤C∧C≤60
  dbl:∀ k,k+1<C→sz k=2*sz (k+1)
  pw:∀ k,k<C→sz k*2 ^ k=sz 0
  top:sz 0≤65536
structure EngR (X:List Nat) (G:GH) (tid sid C:Nat) (sz:Nat→Nat) (g:Nat→Bool) (ms:List (Int×Int)):Prop where
  slo:SloR X G tid C sz (occ g)
  sd:Sx X G eMk sid 0 ms
  nl:Nl sid ms
  ris:Ris ms
  len:ms.length≤100000
variable {tid sid C:Nat} {sz:Nat→Nat} {g:Nat→Bool} {ms:List (Int×Int)}
theorem EngR.fr (e:EngR X G tid sid C sz g ms) (h:FrX X G G') (w:G.wf):EngR X G' tid sid C sz g ms:=⟨e.slo.fr h w,e.sd.fr h w,e.nl,e.ris,e.len⟩
theorem EngR.keep (e:EngR X G tid sid C sz g ms) (h:Hp G G' R):EngR X G' tid sid C sz g ms:=e.fr (FrX.hp h) h.wf0
theorem ris_ins {i:Nat} {m:Int×Int} (ris:Ris ms) (hi:i≤ms.length) (h1:∀ (p:Nat) (h:p<ms.length),p<i→ms[p].1<m.1) (h2:∀ (p:Nat) (h:p<ms.length),i≤p→m.1<ms[p].1):Ris (insM ms i m):=by
  unfold Ris insM
  refine List.pairwise_append.2 ⟨List.Pairwise.sublist (List.take_sublist _ _) ris,List.pairwise_cons.2 ⟨fun b hb=>?_,List.Pairwise.sublist (List.drop_sublist _ _) ris⟩,fun a ha b hb=>?_⟩
  · obtain ⟨p,hp,rfl⟩:=List.getElem_of_mem hb
    rw [List.getElem_drop]
    exact h2 _ _ (by omega)
  · obtain ⟨p,hp,rfl⟩:=List.getElem_of_mem ha
    rw [List.length_take] at hp
    rw [List.getElem_take]
    have h3:=h1 p (by omega) (by omega)
    rcases List.mem_cons.1 hb with rfl | hb
    · exact h3
    · obtain ⟨q,hq,rfl⟩:=List.getElem_of_mem hb
      rw [List.length_drop] at hq
      rw [List.getElem_drop]
      have:=h2 (i+q) (by omega) (by omega)
      omega
theorem ris_del {i:Nat} (ris:Ris ms):Ris (ms.take i++ms.drop (i+1)):=by
  refine List.Pairwise.sublist ?_ ris
  conv=>rhs;rw [← List.take_append_drop i ms]
  exact (List.Sublist.refl _).append (by rw [show ms.drop (i+1)=(ms.drop i).drop 1 by rw [List.drop_drop]];exact List.drop_sublist _ _)
theorem F76.sp (w:G.wf) (e:EngR X G tid sid C sz g ms) (so:SzOk C sz) (hX:Ids G X) {Gg k:Nat} (hG:1≤Gg∧Gg*sz 0≤65536) (hk:k<C) (hfr:∃ p,occ g k p=false) (hne:∀ z,occ g k z=false→∀ m∈ms,m.1≠((z*2 ^ k*Gg:Nat):Int)) (hl:ms.length+1≤100000) :
    ∃ (z i tid' sid':Nat) (G':GH),CW F76.id [.agg [.int .i64 (Gg:Int),.sl 2 tid 0 C,.sl 2 sid 0 ms.length],.c (.int .i64 (k:Int))] G=some ([.agg [.int .i64 (Gg:Int),.sl 2 tid' 0 C,.sl 2 sid' 0 (ms.length+1)],.c (.int .i64 ((z*2 ^ k*Gg:Nat):Int)),.c (.bool true)],G')∧Hp G G' [] ∧
      EngR X G' tid' sid' C sz (useG true (z*2 ^ k) (z*2 ^ k+2 ^ k-1) g) (insM ms i (((z*2 ^ k*Gg:Nat):Int),(k:Int)))∧z<sz k∧occ g k z=false∧(∀ p,p<z→occ g k p=true) ∧
      i≤ms.length∧(∀ (p:Nat) (h:p<ms.length),p<i→ms[p].1<((z*2 ^ k*Gg:Nat):Int))∧(∀ (p:Nat) (h:p<ms.length),i≤p→((z*2 ^ k*Gg:Nat):Int)<ms[p].1):=by
  have hc:=so.c
  rcases F67.sp e.slo (by omega) hk with ⟨z,e1,hz,hz0,hz1⟩ | ⟨_,hz⟩
  case inr=>obtain ⟨p,hp⟩:=hfr;rw [hz p] at hp;cases hp
  have hpk:=so.pw k hk
  have h2:0<2 ^ k:=Nat.two_pow_pos k
  have hb:z*2 ^ k+2 ^ k≤sz 0:=by
    have:=Nat.mul_le_mul_right (2 ^ k) (show z+1≤sz k by omega)
    rw [hpk,Nat.add_mul,Nat.one_mul] at this
    exact this
  have htop:=so.top
  have hgz:z*2 ^ k*Gg≤65536:=by
    have:=Nat.mul_le_mul_right Gg (show z*2 ^ k≤sz 0 by omega)
    rw [Nat.mul_comm (sz 0)] at this
    omega
  have hm:=hne z hz0
  have e2:binD .shl .i64 (z:Int) (IntKind.u64.wrap (k:Int))=some ((z*2 ^ k:Nat):Int):=shl64 (by omega) (by omega)
  have e3:binD .shl .i64 1 (IntKind.u64.wrap (k:Int))=some ((2 ^ k:Nat):Int):=by
    have:=shl64 (a:=1) (k:=k) (by omega) (by omega)
    rw [Nat.one_mul] at this
    exact this
  have e4:IntKind.i64.wrap (((z*2 ^ k:Nat):Int)*(Gg:Int))=((z*2 ^ k*Gg:Nat):Int):=by
    rw [i64w,← Int.natCast_mul]
    generalize z*2 ^ k*Gg=A at *
    rw [wrap_id (by omega) (by omega)]
  refine ⟨z,?_⟩
  generalize hA:z*2 ^ k*Gg=A at *
  obtain ⟨B,hB⟩:∃ B,z*2 ^ k=B:=⟨_,rfl⟩
  obtain ⟨P,hP⟩:∃ P,2 ^ k=P:=⟨_,rfl⟩
  rw [hB] at e2 e4 hb ⊢
  rw [hP] at e3 hb h2 ⊢
  clear hpk
  obtain ⟨tid',G1,u1,u2,u3⟩:=F97.sp w e.slo ⟨hc.1,hc.2⟩ hX so.dbl so.pw (from_:=B) (cnt_:=P) (last:=B+P-1) (on:=true) (by omega) ⟨by omega,by omega⟩ (by omega) htop
  obtain ⟨i,sid',G2,p1,p2,p3,p4,p5,p6,p7⟩:=F111.sp u2.wf (X:=X) e.nl (e.sd.keep u2) e.ris (by have:=e.len;omega) (at_:=(A:Int)) (cl:=(k:Int)) hm (hX.hp u2)
  refine ⟨i,tid',sid',G2,?_,u2.trans0 p2,⟨u3.keep p2,p3,.inl p4,ris_ins e.ris p5 p6 p7,by simp only [insM,List.length_append,List.length_take,List.length_cons,List.length_drop];omega⟩,hz,hz0,hz1,p5,p6,p7⟩
  rw [F76.cw]
  unfold F76.f
  rw [e1]
  simp only [Qs]
  rw [e2,q_bs,q_bs,e3,q_bs,u1]
  simp only [Qs,List.length_cons,List.length_nil,if_true,Nat.zero_add,Nat.reduceAdd]
  rw [e4,p1]
  simp only [Qs]
theorem F61.sp (w:G.wf) (e:EngR X G tid sid C sz g ms) (so:SzOk C sz) (hX:Ids G X) {Gg k q i:Nat} (hG:1≤Gg∧Gg*sz 0≤65536) (hk:k<C) (hi:i<ms.length) (hm:ms[i]=(((q*Gg:Nat):Int),(k:Int))) (hq:q+2 ^ k≤sz 0) :
    ∃ (tid' sid':Nat) (G':GH),CW F61.id [.agg [.int .i64 (Gg:Int),.sl 2 tid 0 C,.sl 2 sid 0 ms.length],.c (.int .i64 ((q*Gg:Nat):Int))] G=some ([.agg [.int .i64 (Gg:Int),.sl 2 tid' 0 C,.sl 2 sid' 0 (ms.length-1)],.c (.int .i64 (k:Int)),.c (.bool true)],G')∧Hp G G' [] ∧
      EngR X G' tid' sid' C sz (useG false q (q+2 ^ k-1) g) (ms.take i++ms.drop (i+1)):=by
  have hc:=so.c
  have htop:=so.top
  have h2:0<2 ^ k:=Nat.two_pow_pos k
  have hs0:sid≠0:=by
    rcases e.nl with h | h
    · exact h
    · subst h;simp at hi
  obtain ⟨sid',G1,t1,t2,t3,t4⟩:=F101.sp w (X:=X) hs0 e.sd e.ris (by have:=e.len;omega) hi hX
  rw [hm] at t1
  have e3:binD .shl .i64 1 (IntKind.u64.wrap (k:Int))=some ((2 ^ k:Nat):Int):=by
    have:=shl64 (a:=1) (k:=k) (by omega) (by omega)
    rw [Nat.one_mul] at this
    exact this
  have hqG:q*Gg≤65536:=by
    have:=Nat.mul_le_mul_right Gg (show q≤sz 0 by omega)
    rw [Nat.mul_comm (sz 0)] at this
    omega
  have hGg:Gg≤65536:=by
    have:=Nat.mul_le_mul_left Gg (show 1≤sz 0 by omega)
    omega
  have e4:binD .quo .i64 ((q*Gg:Nat):Int) (Gg:Int)=some (q:Int):=by
    rw [binD_quo (by omega),tdiv_nat,Nat.mul_div_cancel _ (by omega),i64w,wrap_id (by omega) (by omega)]
  generalize q*Gg=A at *
  generalize 2 ^ k=P at *
  obtain ⟨tid',G2,u1,u2,u3⟩:=F97.sp t2.wf (e.slo.keep t2) ⟨hc.1,hc.2⟩ (hX.hp t2) so.dbl so.pw (from_:=q) (cnt_:=P) (last:=q+P-1) (on:=false) (by omega) ⟨by omega,by omega⟩ (by omega) htop
  refine ⟨tid',sid',G2,?_,t2.trans0 u2,⟨u3,t3.keep u2,.inl t4,ris_del e.ris,by have:=e.len;simp only [List.length_append,List.length_take,List.length_drop];omega⟩⟩
  rw [F61.cw]
  unfold F61.f
  rw [t1]
  simp only [Qs]
  rw [condD_neg (by omega),condD_neg (by omega),decide_eq_false (by omega),F61.J7_eq,q_cf,e4,q_bs,e3,q_bs,u1]
  simp only [Qs,List.length_cons,List.length_nil,if_true,Nat.zero_add,Nat.reduceAdd]
end Go.Proofs.D.S
/- New trees. -/
set_option linter.unusedVariables false
set_option linter.unusedSimpArgs false
namespace Go.Proofs.D.S
open Go Go.RowKit
variable {G G' G0 G1:GH} {L R:List (Nat×Obj)} {X Y:List Nat}
theorem bc_pos {n:Nat} (hn:1≤n) (k:Nat):1≤bc n k:=by cases k with | zero=>exact hn | succ k=>exact nw_pos n k
theorem lf_empty {n:Nat} (hn:1≤n):∀ k p,lf (fun p=>decide (n≤p)) k p=decide (bc n k≤p)
  | 0,p=>rfl
  | k+1,p=>by
    have e:=nw_bc n k
    have hb1:=bc_pos hn k
    show fullB (lf (fun p=>decide (n≤p)) k) p=decide (nw n k≤p)
    by_cases hp:nw n k≤p
    · rw [decide_eq_true hp]
      refine fullB_true.2 fun b hb=>?_
      rw [lf_empty hn k,decide_eq_true (show bc n k≤64*p+b by omega)]
    · rw [decide_eq_false hp]
      cases hf:fullB (lf (fun p=>decide (n≤p)) k) p with
      | false=>rfl
      | true =>
        have:=fullB_true.1 hf 0 (by omega)
        rw [lf_empty hn k] at this
        have hx:bc n k≤64*p+0:=of_decide_eq_true this
        exact absurd (show nw n k≤p by omega) hp
theorem F83.sp (w:G.wf) {n:Nat} (hn:1≤n∧n≤65536) :
    ∃ id G',CW F83.id [.c (.int .i64 (n:Int))] G=some ([.c (.sl 1 id 0 ((n-1) / 64+1))],G')∧Hp G G' [rowE eU id (rowU ((n-1) / 64+1) fun p=>decide (n≤p))]∧id≠0:=by
  have hm:(1000000:Nat)≤most:=by unfold most;decide
  obtain ⟨m,em⟩:∃ m,m=(n-1) / 64+1:=⟨_,rfl⟩
  have e1:IntKind.i64.wrap (IntKind.i64.wrap (Int.tdiv (IntKind.i64.wrap ((n:Int)-1)) 64)+1)=(m:Int):=by
    simp only [i64w]
    rw [wrap_id (a:=(n:Int)-1) (by omega) (by omega),show (n:Int)-1=((n-1:Nat):Int) by omega,td64,wrap_id (a:=(((n-1) / 64:Nat):Int)) (by omega) (by omega),wrap_id (by omega) (by omega)]
    omega
  have h1:=(Hp.refl w).alloc (.row (reps m (eU 0)) false)
  rw [reps_tab (e:=eU) m 0] at h1
  have hid:G.next≠0:=by have:=w.2;omega
  have w0:(0:Int)=wd fun _=>false:=wd_zero.symm
  rw [F83.cw]
  unfold F83.f
  rw [e1,guardD_of (by omega),Int.toNat_natCast,tm64,← em]
  rw [show [Cell.int .u64 0]=eU 0 from rfl,reps_tab (e:=eU) m 0]
  dsimp only
  by_cases hr:n % 64>0
  · rw [condD_pos (by omega),F90.sp (by omega) (by omega)]
    simp only [Qs]
    rw [i64w,wrap_id (by omega) (by omega),guardD_of (by omega),show ((m:Int)-1).toNat=m-1 by omega,Nat.zero_add]
    obtain ⟨G2,h2,e2⟩:=h1.put (e:=eU) (id:=G.next) (xs:=tab m fun _=>0) (i:=m-1) (by rw [tab_len];omega) (wd fun b=>decide (n % 64≤b)&&decide ((b:Int)<((n % 64:Nat):Int)+64)) (off:=(m-1)*1) rfl rfl
    simp only [eU] at e2
    rw [e2,q_bs,F83.J11_eq]
    refine ⟨_,_,rfl,?_,hid⟩
    rw [tab_set] at h2
    rw [show rowU m (fun p=>decide (n≤p))=tab m fun j=>if j=m-1 then wd fun b=>decide (n % 64≤b)&&decide ((b:Int)<((n % 64:Nat):Int)+64) else 0 from tab_congr fun j hj=>by
      unfold wdAt
      by_cases hjm:j=m-1
      · rw [if_pos hjm]
        refine wd_congr fun b hb=>?_
        rw [decide_eq_true (show (b:Int)<((n % 64:Nat):Int)+64 by omega),Bool.and_true]
        exact decide_eq_decide.2 (by omega)
      · rw [if_neg hjm,w0]
        exact wd_congr fun b hb=>decide_eq_false (by omega)]
    exact h2
  · rw [condD_neg (by omega),F83.J11_eq]
    refine ⟨_,_,rfl,?_,hid⟩
    rw [show rowU m (fun p=>decide (n≤p))=tab m fun j=>(0:Int) from tab_congr fun j hj=>by
      unfold wdAt
      rw [w0]
      exact wd_congr fun b hb=>decide_eq_false (by omega)]
    exact h1
theorem F106.sp (w:G.wf) {n:Nat} (hn:1≤n∧n≤65536) (hX:Ids G X) :
    ∃ lid D G',CW F106.id [.c (.int .i64 (n:Int))] G=some ([.agg [.int .i64 (n:Int),.sl 1 lid 0 D]],G')∧Hp G G' []∧T1 X G' n lid D (fun p=>decide (n≤p)):=by
  have hm:(1000:Nat)≤most:=by unfold most;decide
  have hw:=w.2
  have lp:∀ (d k:Nat) (oid:Nat) (Rk:Nat→Nat) (G2:GH),k+d=3→1≤bc n k→bc n k≤64 ^ d→bc n k≤65536→Hp G G2 [rowE eL oid (tab k fun k=>(Rk k,nw n k))] →
      (∀ j,j<k→G2.get (Rk j)=some (.row (cells eU (rowU (nw n j) (lf (fun p=>decide (n≤p)) j))) false)∧G.next≤Rk j∧Rk j≠oid) →
      ∃ lid D G',F106.L22 machW CW (bc n k:Int) (n:Int) oid 0 k G2=some ([.agg [.int .i64 (n:Int),.sl 1 lid 0 D]],G')∧Hp G G' []∧T1 X G' n lid D (fun p=>decide (n≤p)):=by
    intro d
    induction d using Nat.strongRecOn with
    | _ d ih =>
      intro k oid Rk G2 hk hb1 hb hb2 h hrows
      obtain ⟨id,G3,e3,h3,hid⟩:=F83.sp h.wf (n:=bc n k) ⟨hb1,hb2⟩
      rw [← nw_bc] at e3 h3
      have g3:=(h3.hd hid).2
      have hid3:=h3.newId hid
      have h3':=h.trans0 h3.nil
      obtain ⟨oid',G4,h4,hoid,fo,key⟩:=h3'.app1F (S:=Res) (id,nw n k) (n:=k) (by simp) (by simp;omega)
      have hn0:=h.nx
      have hn3:=h3.nx
      have ho:=h.idlt0
      have hi4:id<G3.next:=wf_lt h3.wf g3
      have e5:(tab k fun k=>(Rk k,nw n k))++[(id,nw n k)]=tab (k+1) fun j=>(if j=k then id else Rk j,nw n j):=by
        rw [tab_succ,if_pos rfl]
        congr 1
        exact tab_congr fun j hj=>by rw [if_neg (by omega)]
      rw [e5] at h4
      have rows4:∀ j,j<k+1→G4.get (if j=k then id else Rk j)=some (.row (cells eU (rowU (nw n j) (lf (fun p=>decide (n≤p)) j))) false)∧G.next≤(if j=k then id else Rk j)∧(if j=k then id else Rk j)≠oid':=fun j hj=>by
        by_cases hjk:j=k
        · subst hjk
          rw [if_pos rfl,fo.old _ (fun _=>by omega) hi4,g3]
          refine ⟨?_,by omega,by omega⟩
          rw [show lf (fun p=>decide (n≤p)) j=fun p=>decide (bc n j≤p) from funext fun p=>lf_empty hn.1 j p]
        · rw [if_neg hjk]
          obtain ⟨a,b,c⟩:=hrows j (by omega)
          have hl:=wf_lt h.wf a
          refine ⟨?_,b,by omega⟩
          rw [fo.old _ (fun _=>c) (by omega),h3.old _ hl,a]
      rw [F106.L22_eq,e3]
      simp only [Qs]
      simp only [eL] at key
      rw [key]
      by_cases h64:bc n k≤64
      · rw [condD_pos (by omega)]
        have hoid0:oid'≠0:=by omega
        have g4:=(h4.hd hoid0).2
        refine ⟨oid',k+1,G4,rfl,h4.nil,⟨by omega,by omega⟩,hn,?_,fun p hp=>decide_eq_true hp,fun j=>if j=k then id else Rk j,row_row g4,fun j hj=>row_row (rows4 j hj).1,⟨fun hx=>by have:=hX _ hx;omega,fun j hj hx=>by have:=hX _ hx;have:=(rows4 j hj).2.1;omega⟩,by omega,fun j hj=>by have:=(rows4 j hj).2.1;omega⟩
        rw [Nat.add_sub_cancel,nw_bc];omega
      · rw [condD_neg (by omega)]
        have hd2:2≤d:=by
          rcases Nat.lt_or_ge d 2 with hd | hd
          · exfalso
            rcases (show d=0∨d=1 by omega) with rfl | rfl
            · simp at hb;omega
            · simp at hb;omega
          · exact hd
        have e1:IntKind.i64.wrap (IntKind.i64.wrap (Int.tdiv (IntKind.i64.wrap ((bc n k:Int)-1)) 64)+1)=(bc n (k+1):Int):=by
          show _=((nw n k:Nat):Int)
          rw [nw_bc]
          simp only [i64w]
          rw [wrap_id (a:=(bc n k:Int)-1) (by omega) (by omega),show (bc n k:Int)-1=((bc n k-1:Nat):Int) by omega,td64,wrap_id (a:=(((bc n k-1) / 64:Nat):Int)) (by omega) (by omega),wrap_id (by omega) (by omega)]
          omega
        rw [e1]
        have hpw:64 ^ d=64*64 ^ (d-1):=by
          conv=>lhs;rw [show d=(d-1)+1 by omega,Nat.pow_succ,Nat.mul_comm]
        refine ih (d-1) (by omega) (k+1) oid' (fun j=>if j=k then id else Rk j) G4 (by omega) (nw_pos n k) ?_ ?_ h4 rows4
        · show nw n k≤_
          rw [nw_bc]
          rw [hpw] at hb
          generalize 64 ^ (d-1)=P at *
          omega
        · show nw n k≤_
          rw [nw_bc];omega
  obtain ⟨lid,D,G',e,h,t⟩:=lp 3 0 0 (fun _=>0) G rfl hn.1 (by show n≤_;omega) hn.2 ((Hp.refl w).nil0 (e:=eL)) (fun j hj=>by omega)
  refine ⟨lid,D,G',?_,h,t⟩
  rw [F106.cw]
  unfold F106.f
  rw [condD_neg (by omega),decide_eq_false (by omega),F106.J6_eq,q_cf]
  exact e
theorem occ_empty {C:Nat} {sz:Nat→Nat} (so:SzOk C sz):∀ k,k<C→∀ p,occ (fun q=>decide (sz 0≤q)) k p=decide (sz k≤p)
  | 0,_,p=>rfl
  | k+1,h,p=>by
    have d:=so.dbl k h
    show (occ _ k (2*p)||occ _ k (2*p+1))=_
    rw [occ_empty so k (by omega),occ_empty so k (by omega),Bool.eq_iff_iff,Bool.or_eq_true]
    simp only [decide_eq_true_eq]
    omega
theorem and_mask {a j:Nat} (hj:j≤16) (ha:a≤65536) (h:2 ^ j ∣ a):IntKind.i64.wrap (((BitVec.ofInt IntKind.i64.bits (a:Int)) &&& (BitVec.ofInt IntKind.i64.bits (((2 ^ j:Nat):Int)-1))).toNat:Int)=0:=by
  have hp:=Nat.two_pow_pos j
  have h16:2 ^ j≤65536:=Nat.pow_le_pow_right (n:=2) (i:=j) (j:=16) (by omega) hj
  have e:(BitVec.ofInt IntKind.i64.bits (a:Int)) &&& (BitVec.ofInt IntKind.i64.bits (((2 ^ j:Nat):Int)-1))=BitVec.ofNat 64 0:=by
    have e1:(((2 ^ j:Nat):Int)-1)=((2 ^ j-1:Nat):Int):=by omega
    rw [e1]
    show BitVec.ofInt 64 (a:Int) &&& BitVec.ofInt 64 ((2 ^ j-1:Nat):Int)=_
    rw [BitVec.ofInt_natCast,BitVec.ofInt_natCast,← BitVec.ofNat_and,Nat.and_two_pow_sub_one_eq_mod,Nat.mod_eq_zero_of_dvd h]
  rw [e];rfl
theorem F91.sp (w:G.wf) {C:Nat} {sz:Nat→Nat} (so:SzOk C sz) (hC:C≤17) (hpos:∀ k,k<C→1≤sz k) (hX:Ids G X) :
    ∃ tid G',CW F91.id [.c (.int .i64 (sz 0:Int)),.c (.int .i64 (C:Int))] G=some ([.agg [.sl 2 tid 0 C]],G')∧Hp G G' []∧SloR X G' tid C sz (occ fun q=>decide (sz 0≤q)):=by
  have hm:(1000:Nat)≤most:=by unfold most;decide
  have hc:=so.c
  have htop:=so.top
  have h0:=hpos 0 (by omega)
  have lp:∀ (d k:Nat) (G2:GH) (oid:Nat) (li Dk:Nat→Nat),k+d=C→Hp G G2 [rowE eTr oid (tab k fun k=>(sz k,li k,Dk k))]→(∀ j,j<k→T1 (oid::X) G2 (sz j) (li j) (Dk j) (fun p=>decide (sz j≤p))) →
      ∃ tid G',F91.L21 machW CW (sz 0:Int) (C:Int) (k:Int) oid 0 k G2=some ([.agg [.sl 2 tid 0 C]],G')∧Hp G G' []∧SloR X G' tid C sz (occ fun q=>decide (sz 0≤q)):=by
    intro d
    induction d with
    | zero =>
      intro k G2 oid li Dk hk h ht
      have:k=C:=by omega
      subst this
      rw [F91.L21_eq,condD_neg (by omega)]
      refine ⟨oid,G2,rfl,h.nil,li,Dk,h.sx (List.mem_cons_self ..) hX,fun j hj=>?_⟩
      exact ((ht j hj).tl).congr fun p=>(occ_empty so j hj p).symm
    | succ d ih =>
      intro k G2 oid li Dk hk h ht
      have hkC:k<C:=by omega
      have hpk:=so.pw k hkC
      have h2k:=Nat.two_pow_pos k
      have es:sz 0 / 2 ^ k=sz k:=by rw [← hpk,Nat.mul_div_cancel _ h2k]
      have hszk:1≤sz k∧sz k≤65536:=⟨hpos k hkC,by rw [← es];exact Nat.le_trans (Nat.div_le_self _ _) htop⟩
      have hXo:Ids G2 (oid::X):=fun x hx=>by
        rcases List.mem_cons.1 hx with hx | hx
        · rw [hx];exact h.idlt0
        · have:=hX x hx;have:=h.nx;omega
      obtain ⟨lid,D,G3,e3,h3,t3⟩:=F106.sp h.wf hszk hXo
      have h3':=h.trans0 h3
      obtain ⟨oid',G4,h4,hid,fo,key⟩:=h3'.app1F (S:=Res) (sz k,lid,D) (n:=k) (by simp) (by simp;omega)
      rw [F91.L21_eq,condD_pos (by omega),shr64 (by omega),q_bs,es,e3]
      simp only [Qs]
      simp only [List.length_cons,List.length_nil,if_true,Nat.zero_add,Nat.reduceAdd,Qs]
      simp only [eTr] at key
      rw [key,i64w,wrap_id (by omega) (by omega),show (k:Int)+1=((k+1:Nat):Int) by omega]
      have e5:(tab k fun k=>(sz k,li k,Dk k))++[(sz k,lid,D)]=tab (k+1) fun j=>(sz j,if j=k then lid else li j,if j=k then D else Dk j):=by
        rw [tab_succ,if_pos rfl,if_pos rfl]
        congr 1
        exact tab_congr fun j hj=>by rw [if_neg (by omega),if_neg (by omega)]
      rw [e5] at h4
      refine ih (k+1) G4 oid' _ _ (by omega) h4 fun j hj=>?_
      have move:∀ {n lid D f},T1 (oid::X) G3 n lid D f→T1 (oid'::X) G4 n lid D f:=fun {n lid D f} t=>by
        have a:=t.more (x:=oid') h3.wf (.inl hid.1)
        have b:=a.fr (G':=G4) (fo.frx.mono (X:=oid::X) fun x hx=>by
          rcases List.mem_cons.1 hx with hx | hx <;> simp [hx]) h3.wf
        exact b.less fun y hy=>by rcases List.mem_cons.1 hy with hy | hy <;> simp [hy]
      by_cases hjk:j=k
      · subst hjk
        rw [if_pos rfl,if_pos rfl]
        exact move t3
      · rw [if_neg hjk,if_neg hjk]
        exact move ((ht j (by omega)).keep h3)
  obtain ⟨tid,G',e,h,s⟩:=lp C 0 G 0 (fun _=>0) (fun _=>0) (by omega) ((Hp.refl w).nil0 (e:=eTr)) (fun j hj=>by omega)
  refine ⟨tid,G',?_,h,s⟩
  rw [F91.cw]
  unfold F91.f
  have h16:2 ^ (C-1)≤65536:=Nat.pow_le_pow_right (n:=2) (i:=C-1) (j:=16) (by omega) (by omega)
  have e2:binD .shl .i64 1 (IntKind.u64.wrap (IntKind.i64.wrap ((C:Int)-1)))=some ((2 ^ (C-1):Nat):Int):=by
    have:=shl64 (a:=1) (k:=C-1) (by omega) (by omega)
    rw [Nat.one_mul] at this
    rw [i64w,wrap_id (by omega) (by omega),show (C:Int)-1=((C-1:Nat):Int) by omega]
    exact this
  have e3:IntKind.i64.wrap (((2 ^ (C-1):Nat):Int)-1)=((2 ^ (C-1):Nat):Int)-1:=by
    have:=Nat.two_pow_pos (C-1)
    rw [i64w]
    generalize 2 ^ (C-1)=P at *
    rw [wrap_id (by omega) (by omega)]
  have hd:2 ^ (C-1) ∣ sz 0:=⟨sz (C-1),by rw [Nat.mul_comm];exact (so.pw (C-1) (by omega)).symm⟩
  rw [condD_neg (by omega),condD_neg (by omega),condD_neg (by omega),condD_neg (by omega),e2,q_bs,e3,and_mask (by omega) htop hd,decide_eq_true rfl,q_nt,F91.J6_eq,q_cf]
  exact e
theorem F92.sp (w:G.wf) {C:Nat} {sz:Nat→Nat} (so:SzOk C sz) (hC:C≤17) (hpos:∀ k,k<C→1≤sz k) (hX:Ids G X) {Gg e:Nat} (he:Gg=2 ^ e) (hG:Gg*sz 0≤65536) :
    ∃ tid G',CW F92.id [.c (.int .i64 (Gg:Int)),.c (.int .i64 (sz 0:Int)),.c (.int .i64 (C:Int))] G=some ([.agg [.int .i64 (Gg:Int),.sl 2 tid 0 C,.sl 2 0 0 0],.c (.bool true)],G')∧Hp G G' []∧EngR X G' tid 0 C sz (fun q=>decide (sz 0≤q)) []:=by
  obtain ⟨tid,G',e1,h,s⟩:=F91.sp w so hC hpos hX
  have hc:=so.c
  have h0:=hpos 0 (by omega)
  have hg1:1≤Gg:=by rw [he];exact Nat.two_pow_pos e
  have hg2:Gg≤65536:=by have:=Nat.mul_le_mul_left Gg h0;omega
  have he16:e≤16:=by
    rcases Nat.lt_or_ge 16 e with h | h
    · have:=Nat.pow_lt_pow_right (a:=2) (m:=16) (n:=e) (by omega) h
      rw [← he] at this;omega
    · exact h
  refine ⟨tid,G',?_,h,s,Sx.nil,.inr rfl,List.Pairwise.nil,by simp⟩
  have ea:IntKind.i64.wrap (((BitVec.ofInt IntKind.i64.bits (Gg:Int)) &&& (BitVec.ofInt IntKind.i64.bits (IntKind.i64.wrap ((Gg:Int)-1)))).toNat:Int)=0:=by
    rw [i64w ((Gg:Int)-1),wrap_id (by omega) (by omega)]
    have:=and_mask (a:=Gg) (j:=e) he16 hg2 (by rw [he];exact Nat.dvd_refl _)
    rw [← he] at this
    exact this
  rw [F92.cw]
  unfold F92.f
  rw [condD_neg (by omega),condD_neg (by omega),ea,decide_eq_true rfl,q_nt,F92.J6_eq,q_cf,e1]
  simp only [Qs,List.length_cons,List.length_nil,if_true,Nat.zero_add,Nat.reduceAdd]
  have hle:sz 0≤65536 / Gg:=(Nat.le_div_iff_mul_le hg1).2 (by rw [Nat.mul_comm];exact hG)
  have hq:65536 / Gg≤65536:=Nat.div_le_self 65536 Gg
  rw [condD_neg (by omega),binD_quo (by omega),q_bs,show (65536:Int)=((65536:Nat):Int) from rfl,tdiv_nat,i64w]
  generalize 65536 / Gg=Q at *
  rw [wrap_id (by omega) (by omega),decide_eq_false (by omega),F92.J14_eq,q_cf]
end Go.Proofs.D.S
/- Pages: which are met,which are there;what stands in fresh ones. -/
set_option linter.unusedVariables false
set_option linter.unusedSimpArgs false
namespace Go.Proofs.D.S
open Go Go.RowKit
variable {G G' G0 G1:GH} {L R:List (Nat×Obj)} {X Y:List Nat}
theorem tm256t (x:Int):IntKind.u8.wrap x=x % 256:=by simp [IntKind.wrap,IntKind.bits,IntKind.signed]
theorem F100.sp {a b c:Int} (ha:0≤a) (hb:0≤b) (hc:0≤c):CW F100.id [.c (.int .i64 a),.c (.int .i64 b),.c (.int .i64 c)] G=some ([.c (.int .u8 (u8w (byteP a b c)))],G):=by
  rw [F100.cw]
  unfold F100.f
  have e:IntKind.u8.wrap (IntKind.u8.wrap (IntKind.u8.wrap (IntKind.u8.wrap a+IntKind.u8.wrap (31*IntKind.u8.wrap b))+IntKind.u8.wrap (7*IntKind.u8.wrap c))+1)=u8w (byteP a b c):=by
    unfold byteP u8w
    simp only [tm256t]
    rw [Int.tmod_eq_emod_of_nonneg ha,Int.tmod_eq_emod_of_nonneg hb,Int.tmod_eq_emod_of_nonneg hc,Int.tmod_eq_emod_of_nonneg (by omega)]
    omega
  rw [e]
theorem F94.sp {pg a n:Int} (hpg:1≤pg) (ha:0≤a∧a≤65536) (hn:0≤n∧n≤65536) :
    CW F94.id [.c (.int .i64 pg),.c (.int .i64 a),.c (.int .i64 n)] G=some ([.c (.int .i64 (pagesP pg a n).1),.c (.int .i64 (pagesP pg a n).2)],G):=by
  rw [F94.cw]
  unfold F94.f pagesP
  have q0:=Int.ediv_nonneg ha.1 (show 0≤pg by omega)
  have q1:=Int.ediv_le_self pg ha.1
  rw [condD_neg (by omega),condD_neg (by omega),decide_eq_false (by omega),F94.J6_eq,q_cf,binD_quo (by omega),Int.tdiv_eq_ediv_of_nonneg ha.1,i64w,wrap_id (by omega) (by omega),q_bs]
  by_cases h:n=0
  · rw [condD_pos h,if_pos h]
  · rw [condD_neg h,if_neg h]
    simp only [i64w]
    rw [wrap_id (a:=n-1) (by omega) (by omega),wrap_id (a:=9223372036854775807-a) (by omega) (by omega),condD_pos (by omega),wrap_id (a:=a+n) (by omega) (by omega),wrap_id (a:=a+n-1) (by omega) (by omega)]
    have r0:=Int.ediv_nonneg (show 0≤a+n-1 by omega) (show 0≤pg by omega)
    have r1:=Int.ediv_le_self pg (show 0≤a+n-1 by omega)
    rw [F94.J24_eq,binD_quo (by omega),Int.tdiv_eq_ediv_of_nonneg (by omega),i64w,wrap_id (by omega) (by omega),q_bs,i64w,wrap_id (by omega) (by omega)]
theorem F99.sp {i o:Nat} {l:List Bool} (s:Sl G eB i o l) (hl:l.length≤1000000000):CW F99.id [.c (.sl 1 i o l.length)] G=some ([.c (.int .i64 (cnt l))],G):=by
  rw [F99.cw]
  unfold F99.f
  have lp:∀ (d k:Nat) (z:Nat),k+d=l.length→z≤k→F99.L18 machW CW (z:Int) i o l.length (l.length:Int) (k:Int) G=some ([.c (.int .i64 ((z+cnt (l.drop k):Nat):Int))],G):=by
    intro d
    induction d with
    | zero =>
      intro k z hk hz
      rw [F99.L18_eq,condD_neg (by omega),List.drop_of_length_le (by omega)];rfl
    | succ d ih =>
      intro k z hk hz
      have hkl:k<l.length:=by omega
      have e:l.drop k=l[k]::l.drop (k+1):=List.drop_eq_getElem_cons hkl
      have r:=s.ld k 0 hkl (by omega)
      rw [Nat.add_zero] at r
      rw [F99.L18_eq,condD_pos (by omega),guardD_of (by omega)]
      simp only [Int.toNat_natCast,r,eB,List.getElem?_cons_zero,Qs,F99.J14_eq,i64w]
      rw [wrap_id (a:=(z:Int)+1) (by omega) (by omega),wrap_id (a:=(k:Int)+1) (by omega) (by omega),e]
      cases hb:l[k] with
      | true =>
        rw [q_ct]
        have:=ih (k+1) (z+1) (by omega) (by omega)
        simp only [cnt,cond_true]
        rw [show z+(1+cnt (l.drop (k+1)))=z+1+cnt (l.drop (k+1)) by omega]
        exact this
      | false =>
        rw [q_cf]
        have:=ih (k+1) z (by omega) (by omega)
        simp only [cnt,cond_false,Nat.zero_add]
        exact this
  have:=lp l.length 0 0 (by omega) (Nat.le_refl _)
  simpa using this
theorem F5.sp {id off:Nat} {xs:List Bool} (w:G.wf) (hid:id≠0) (s:Sl G eB id off xs) (hl:xs.length≤1000000000) :
    ∃ id' G',CW F5.id [.c (.sl 1 id off xs.length)] G=some ([.c (.sl 1 id' 0 xs.length)],G')∧Hp G G' [rowE eB id' xs]∧id'≠0:=by
  have hm:(1000000000:Nat)≤most:=by unfold most;decide
  obtain ⟨id',G',h,h0,key⟩:=clone_row (R:=Res) w s (by omega)
  refine ⟨id',G',?_,h,h0⟩
  rw [F5.cw]
  unfold F5.f
  rw [show Nat.beq id 0=false from by cases h:Nat.beq id 0 with | false=>rfl | true=>exact absurd (Nat.eq_of_beq_eq_true h) hid,q_xf,q_cf]
  dsimp only
  rw [key]
  simp only [Nat.zero_add]
theorem F6.sp {id off:Nat} {xs:List Int} (w:G.wf) (hid:id≠0) (s:Sl G eU8 id off xs) (hl:xs.length≤1000000000) :
    ∃ id' G',CW F6.id [.c (.sl 1 id off xs.length)] G=some ([.c (.sl 1 id' 0 xs.length)],G')∧Hp G G' [rowE eU8 id' xs]∧id'≠0:=by
  have hm:(1000000000:Nat)≤most:=by unfold most;decide
  obtain ⟨id',G',h,h0,key⟩:=clone_row (R:=Res) w s (by omega)
  refine ⟨id',G',?_,h,h0⟩
  rw [F6.cw]
  unfold F6.f
  rw [show Nat.beq id 0=false from by cases h:Nat.beq id 0 with | false=>rfl | true=>exact absurd (Nat.eq_of_beq_eq_true h) hid,q_xf,q_cf]
  dsimp only
  rw [key]
  simp only [Nat.zero_add]
end Go.Proofs.D.S
/- Pages: those that are let go,those that are let be there. -/
set_option linter.unusedVariables false
set_option linter.unusedSimpArgs false
namespace Go.Proofs.D.S
open Go Go.RowKit
variable {G G' G0 G1:GH} {L R:List (Nat×Obj)} {X Y:List Nat}
theorem tab_put {α:Type} {n i:Nat} {F g:Nat→α}:(tab n fun j=>if j<i then F j else g j).set i (F i)=tab n fun j=>if j<i+1 then F j else g j:=by
  rw [tab_set]
  refine tab_congr fun j hj=>?_
  by_cases h1:j=i
  · subst h1;rw [if_pos rfl,if_pos (by omega)]
  · rw [if_neg h1]
    by_cases h2:j<i
    · rw [if_pos h2,if_pos (by omega)]
    · rw [if_neg h2,if_neg (by omega)]
theorem gone_succ (on met:List Bool) (k:Nat):goneP on met (k+1)=goneP on met k+(bif on.getD k false&&!met.getD k false then 1 else 0):=by
  unfold goneP
  rw [tab_succ,cnt_append]
  simp [cnt]
theorem gone_le (on met:List Bool) (k:Nat):goneP on met k≤k:=by have:=cnt_le (tab k fun j=>on.getD j false&&!met.getD j false);rw [tab_len] at this;exact this
theorem F77.sp (w:G.wf) {oi mi:Nat} {on met:List Bool} (h0:oi≠0) (so:Sl G eB oi 0 on) (sm:Sl G eB mi 0 met) (hlen:met.length=on.length) (hl:on.length≤1000000000) :
    ∃ id G',CW F77.id [.c (.sl 1 oi 0 on.length),.c (.sl 1 mi 0 on.length)] G=some ([.c (.sl 1 id 0 on.length),.c (.int .i64 (goneP on met on.length:Nat))],G')∧Hp G G' [rowE eB id (trimP on met)]∧id≠0:=by
  obtain ⟨id,G1,e1,h1,hid⟩:=F5.sp w h0 so hl
  rw [F77.cw]
  unfold F77.f
  rw [e1]
  simp only [Qs]
  refine ⟨id,?_⟩
  let F:Nat→Bool:=fun j=>on.getD j false&&met.getD j false
  have lp:∀ (d i:Nat) (G2:GH),i+d=on.length→Hp G G2 [rowE eB id (tab on.length fun j=>if j<i then F j else on.getD j false)] →
      ∃ G',F77.L21 machW CW mi 0 on.length id 0 on.length ((goneP on met i:Nat):Int) oi 0 on.length (on.length:Int) (i:Int) G2=some ([.c (.sl 1 id 0 on.length),.c (.int .i64 (goneP on met on.length:Nat))],G')∧Hp G G' [rowE eB id (trimP on met)]∧id≠0:=by
    intro d
    induction d with
    | zero =>
      intro i G2 hi h
      rw [F77.L21_eq,condD_neg (by omega),show i=on.length by omega]
      refine ⟨_,rfl,?_,hid⟩
      rw [show trimP on met=tab on.length (fun j=>if j<i then F j else on.getD j false) from tab_congr fun j hj=>by rw [if_pos (by omega)]]
      exact h
    | succ d ih =>
      intro i G2 hi h
      have hil:i<on.length:=by omega
      have him:i<met.length:=by omega
      have g0:=gone_le on met i
      have r1:=(so.keep h).ld i 0 hil (by omega)
      have r2:=(sm.keep h).ld i 0 him (by omega)
      rw [Nat.add_zero] at r1 r2
      obtain ⟨G4,h4,e4⟩:=h.put (by rw [tab_len];exact hil) (F i) (off:=0+i*1) (by omega) rfl
      rw [tab_put] at h4
      have hF:F i=(on[i]&&met[i]):=by simp only [F];rw [getD_lt _ hil,getD_lt _ him]
      have hg:=gone_succ on met i
      rw [getD_lt _ hil,getD_lt _ him] at hg
      have same:on[i]=F i→Hp G G2 [rowE eB id (tab on.length fun j=>if j<i+1 then F j else on.getD j false)]:=fun e=>by
        rw [show (tab on.length fun j=>if j<i+1 then F j else on.getD j false)=tab on.length fun j=>if j<i then F j else on.getD j false from tab_congr fun j hj=>by
          by_cases hji:j=i
          · subst hji;rw [if_pos (by omega),if_neg (by omega),getD_lt _ hil,e]
          · by_cases hj2:j<i
            · rw [if_pos (by omega),if_pos hj2]
            · rw [if_neg (by omega),if_neg hj2]]
        exact h
      rw [F77.L21_eq,condD_pos (by omega),guardD_of (by omega)]
      simp only [Int.toNat_natCast,r1,eB,List.getElem?_cons_zero,Qs]
      cases ho:on[i] with
      | false =>
        have hg:goneP on met (i+1)=goneP on met i:=by rw [hg,ho];rfl
        rw [q_cf,F77.J13_eq,q_cf,F77.J17_eq,i64w,wrap_id (by omega) (by omega),← hg]
        exact ih (i+1) G2 (by omega) (same (by rw [hF,ho];rfl))
      | true =>
        rw [q_ct,condD_neg (by omega),guardD_of (by omega)]
        simp only [Int.toNat_natCast,r2,eB,List.getElem?_cons_zero,Qs]
        cases hm:met[i] with
        | true =>
          have hg:goneP on met (i+1)=goneP on met i:=by rw [hg,ho,hm];rfl
          rw [q_nt,F77.J13_eq,q_cf,F77.J17_eq,i64w,wrap_id (by omega) (by omega),← hg]
          exact ih (i+1) G2 (by omega) (same (by rw [hF,ho,hm];rfl))
        | false =>
          rw [ho,hm,q_nf,Bool.and_true,cond_true] at hg
          rw [hF,ho,hm,Bool.and_false] at e4
          rw [q_nf,F77.J13_eq,q_ct,guardD_of (by omega),Int.toNat_natCast]
          simp only [eB] at e4
          rw [e4,q_bs,F77.J17_eq]
          simp only [i64w]
          rw [wrap_id (a:=((goneP on met i:Nat):Int)+1) (by omega) (by omega),wrap_id (by omega) (by omega),show ((goneP on met i:Nat):Int)+1=((goneP on met i+1:Nat):Int) by omega,← hg]
          exact ih (i+1) G4 (by omega) h4
  have:=lp on.length 0 G1 (by omega) (by
    rw [show (tab on.length fun j=>if j<0 then F j else on.getD j false)=on from by
      conv=>rhs;rw [← tab_list on false]
      exact tab_congr fun j hj=>by rw [if_neg (by omega)]]
    exact h1)
  exact this
theorem fresh_len (on:List Bool) (first behind:Int) (k:Nat):(freshP on first behind k).length≤k:=by
  unfold freshP
  rw [List.length_map]
  exact Nat.le_trans (List.length_filter_le _ _) (by rw [List.length_range];omega)
theorem fresh_succ (on:List Bool) (first behind:Int) (k:Nat):freshP on first behind (k+1)=freshP on first behind k++(if (these first behind k&&!on.getD k false)=true then [(k:Int)] else []):=by
  unfold freshP
  rw [List.range_succ,List.filter_append,List.map_append]
  congr 1
  by_cases h:(these first behind k&&!on.getD k false)=true
  · rw [if_pos h,List.filter_cons_of_pos (p:=fun i=>these first behind i&&!on.getD i false) h];rfl
  · rw [if_neg h,List.filter_cons_of_neg (p:=fun i=>these first behind i&&!on.getD i false) h];rfl
theorem fresh_before {on:List Bool} {first behind:Int}:∀ k:Nat,(k:Int)≤first→freshP on first behind k=[]
  | 0,_=>rfl
  | k+1,h=>by
    rw [fresh_succ,fresh_before k (by omega),if_neg]
    · rfl
    · unfold these;rw [decide_eq_false (show ¬ (k:Int)≥first by omega)];simp
theorem fresh_behind {on:List Bool} {first behind:Int}:∀ k:Nat,behind≤k→∀ d,freshP on first behind (k+d)=freshP on first behind k
  | k,h,0=>rfl
  | k,h,d+1=>by
    rw [← Nat.add_assoc,fresh_succ,fresh_behind k h d,if_neg]
    · rw [List.append_nil]
    · unfold these;rw [decide_eq_false (show ¬ ((k+d:Nat):Int)<behind by omega)];simp
theorem F59.sp (w:G.wf) {oi mi:Nat} {on met:List Bool} (h0:oi≠0) (hm0:mi≠0) (so:Sl G eB oi 0 on) (sm:Sl G eB mi 0 met) (hlen:met.length=on.length) {first behind:Nat} {mx:Int} (h1:first≤behind) (h2:behind≤on.length) (hl:on.length≤1000000000) :
    ∃ id fid on' fr ok G',CW F59.id [.c (.sl 1 oi 0 on.length),.c (.sl 1 mi 0 on.length),.c (.int .i64 (first:Int)),.c (.int .i64 (behind:Int)),.c (.int .i64 mx)] G=some ([.c (.sl 1 id 0 on'.length),.c (.sl 1 fid 0 fr.length),.c (.bool ok)],G') ∧
      Hp G G' [rowE eB id on',rowE eI fid fr]∧commitP on met first behind mx=if ok=true then some (on',fr) else none:=by
  have hm:(1000000001:Nat)≤most:=by unfold most;decide
  obtain ⟨xid,G1,e1,g1,hx⟩:=F5.sp w h0 so hl
  have sm1:=sm.keep g1
  obtain ⟨nid,G2,e2,g2,hn⟩:=F5.sp g1.wf hm0 sm1 (by omega)
  rw [hlen] at e2
  have a1:=g1.trans g2
  let N:Nat→Nat→Bool:=fun k j=>met.getD j false||these first k j
  let A:Nat→Nat→Bool:=fun k j=>on.getD j false||these first k j
  have z:∀ j,these (first:Int) (first:Int) j=false:=fun j=>by
    unfold these
    by_cases h:(j:Int)≥first
    · rw [decide_eq_false (show ¬ (j:Int)<first by omega),Bool.and_false]
    · rw [decide_eq_false h,Bool.false_and]
  have a2:Hp G G2 [rowE eI 0 (freshP on first behind first),rowE eB xid (tab on.length (A first)),rowE eB nid (tab on.length (N first))]:=by
    rw [fresh_before _ (Int.le_refl _),show tab on.length (A first)=on from by
      conv=>rhs;rw [← tab_list on false]
      exact tab_congr fun j hj=>by simp only [A];rw [z,Bool.or_false],show tab on.length (N first)=met from by
      conv=>rhs;rw [← tab_list met false]
      rw [hlen]
      exact tab_congr fun j hj=>by simp only [N];rw [z,Bool.or_false]]
    exact Hp.nil0 (e:=eI) (a1.perm (List.Perm.swap _ _ _))
  rw [F59.cw]
  unfold F59.f
  rw [condN_neg rfl,condD_neg (by omega),condD_neg (by omega),decide_eq_false (by omega),F59.J6_eq,q_cf,e1]
  simp only [Qs]
  rw [e2]
  simp only [Qs]
  have eN:needP met first behind=tab on.length (N behind):=by unfold needP;rw [hlen]
  have eA:allP on first behind=tab on.length (A behind):=rfl
  have lp:∀ (d k:Nat) (fid:Nat) (G3:GH),k+d=behind→first≤k→Hp G G3 [rowE eI fid (freshP on first behind k),rowE eB xid (tab on.length (A k)),rowE eB nid (tab on.length (N k))] →
      ∃ id fid' on' fr ok G',F59.L26 machW CW oi 0 on.length (behind:Int) mx xid 0 on.length fid 0 (freshP on first behind k).length nid 0 on.length (k:Int) G3=some ([.c (.sl 1 id 0 on'.length),.c (.sl 1 fid' 0 fr.length),.c (.bool ok)],G') ∧
        Hp G G' [rowE eB id on',rowE eI fid' fr]∧commitP on met first behind mx=if ok=true then some (on',fr) else none:=by
    intro d
    induction d with
    | zero =>
      intro k fid G3 hk hfk h
      have:k=behind:=by omega
      subst this
      have ef:freshP on first k k=freshP on first k on.length:=by
        have:=fresh_behind (on:=on) (first:=first) (behind:=(k:Int)) k (Int.le_refl _) (on.length-k)
        rw [show k+(on.length-k)=on.length by omega] at this
        exact this.symm
      have c1:=F99.sp (h.sl (e:=eB) (id:=nid) (xs:=tab on.length (N k)) (by simp)) (by simpa using hl)
      have c2:=F99.sp (h.sl (e:=eB) (id:=xid) (xs:=tab on.length (A k)) (by simp)) (by simpa using hl)
      rw [tab_len] at c1 c2
      rw [F59.L26_eq,condD_neg (by omega),c1]
      simp only [Qs]
      unfold commitP
      rw [eN,eA,← ef]
      by_cases hc1:((cnt (tab on.length (N k)):Nat):Int)>mx
      · rw [condD_pos hc1,if_pos hc1]
        exact ⟨0,0,[],[],false,G3,rfl,Hp.nil0 (e:=eB) (Hp.nil0 (e:=eI) h.nil),rfl⟩
      · rw [condD_neg hc1,if_neg hc1,c2]
        simp only [Qs]
        by_cases hc2:((cnt (tab on.length (A k)):Nat):Int)>mx
        · have sx:=h.sl (e:=eB) (id:=xid) (xs:=tab on.length (A k)) (by simp)
          have sn:=h.sl (e:=eB) (id:=nid) (xs:=tab on.length (N k)) (by simp)
          have t:=F77.sp h.wf hx sx sn (by simp) (by simpa using hl)
          rw [tab_len] at t
          obtain ⟨id',G4,t1,t2,t3⟩:=t
          rw [condD_pos hc2,if_pos hc2,t1]
          simp only [Qs]
          rw [F59.J43_eq]
          refine ⟨id',fid,_,freshP on first k k,true,G4,?_,(h.trans t2).sub (.cons_cons _ (.cons_cons _ (.cons _ (.cons _ (.refl _))))),?_⟩
          · rw [show (trimP (tab on.length (A k)) (tab on.length (N k))).length=on.length by simp [trimP]]
          · rw [if_pos rfl]
            congr 2
            unfold trimP
            rw [tab_len]
        · rw [condD_neg hc2,if_neg hc2,F59.J43_eq]
          exact ⟨xid,fid,tab on.length (A k),freshP on first k k,true,G3,by rw [tab_len],(h.pick 1).sub (.cons_cons _ (.cons_cons _ (.cons _ (.refl _)))),by rw [if_pos rfl]⟩
    | succ d ih =>
      intro k fid G3 hk hfk h
      have hkl:k<on.length:=by omega
      have r1:=(so.keep h).ld k 0 hkl (by omega)
      rw [Nat.add_zero] at r1
      have fl:=fresh_len on first behind k
      have ht:these (first:Int) (behind:Int) k=true:=by unfold these;rw [decide_eq_true (by omega),decide_eq_true (by omega)];rfl
      have nxt:∀ f:Nat→Bool,(tab on.length fun j=>f j||these first k j).set k true=tab on.length fun j=>f j||these first (k+1:Nat) j:=fun f=>by
        rw [tab_set]
        refine tab_congr fun j hj=>?_
        unfold these
        by_cases hjk:j=k
        · subst hjk;rw [if_pos rfl,decide_eq_true (show (j:Int)≥(first:Int) by omega),decide_eq_true (show (j:Int)<((j+1:Nat):Int) by omega)];simp
        · rw [if_neg hjk]
          congr 2
          exact decide_eq_decide.2 (by omega)
      have tail:∀ (fid:Nat) (G4:GH),Hp G G4 [rowE eI fid (freshP on first behind (k+1)),rowE eB xid (tab on.length (A k)),rowE eB nid (tab on.length (N k))] →
          ∃ id fid' on' fr ok G',F59.J20 machW CW oi 0 on.length (behind:Int) mx xid 0 on.length fid 0 (freshP on first behind (k+1)).length nid 0 on.length (k:Int) G4=some ([.c (.sl 1 id 0 on'.length),.c (.sl 1 fid' 0 fr.length),.c (.bool ok)],G') ∧
            Hp G G' [rowE eB id on',rowE eI fid' fr]∧commitP on met first behind mx=if ok=true then some (on',fr) else none:=by
        intro fid G4 h
        have p1:Hp G G4 [rowE eB xid (tab on.length (A k)),rowE eI fid (freshP on first behind (k+1)),rowE eB nid (tab on.length (N k))]:=h.pick 1
        obtain ⟨G5,h5,e5⟩:=p1.put (by rw [tab_len];exact hkl) true (off:=0+k*1) (by omega) rfl
        rw [nxt fun j=>on.getD j false] at h5
        have p2:Hp G G5 [rowE eB nid (tab on.length (N k)),rowE eB xid (tab on.length (A (k+1))),rowE eI fid (freshP on first behind (k+1))]:=h5.perm (by
          exact ((List.Perm.swap _ _ _).cons _).trans ((List.Perm.swap _ _ _)))
        obtain ⟨G6,h6,e6⟩:=p2.put (by rw [tab_len];exact hkl) true (off:=0+k*1) (by omega) rfl
        rw [nxt fun j=>met.getD j false] at h6
        simp only [eB] at e5 e6
        rw [F59.J20_eq,guardD_of (by omega),Int.toNat_natCast,e5,q_bs,guardD_of (by omega),e6,q_bs,i64w,wrap_id (by omega) (by omega),show (k:Int)+1=((k+1:Nat):Int) by omega]
        exact ih (k+1) fid G6 (by omega) (by omega) (h6.perm (by
          exact ((List.Perm.swap _ _ _).cons _).trans ((List.Perm.swap _ _ _).trans ((List.Perm.swap _ _ _).cons _))))
      have fs:=fresh_succ on first behind k
      rw [getD_lt _ hkl,ht,q_at] at fs
      rw [F59.L26_eq,condD_pos (by omega),guardD_of (by omega)]
      simp only [Int.toNat_natCast,r1,eB,List.getElem?_cons_zero,Qs]
      cases ho:on[k] with
      | true =>
        rw [ho,q_nt,if_neg (by decide),List.append_nil] at fs
        rw [q_nt,q_cf,← fs]
        exact tail fid G3 (by rw [fs];exact h)
      | false =>
        rw [ho,q_nf,if_pos rfl] at fs
        obtain ⟨f2,G6,h6,k6⟩:=h.app1 (S:=Res) (n:=(freshP on first behind k).length) (k:Int) rfl (by omega)
        rw [← fs] at h6
        have hl2:(freshP on first behind k).length+1=(freshP on first behind (k+1)).length:=by rw [fs];simp
        simp only [eI] at k6
        rw [q_nf,q_ct,k6,hl2]
        exact tail f2 G6 h6
  have fin:=lp (behind-first) first 0 G2 (by omega) (Nat.le_refl _) a2
  rw [fresh_before first (Int.le_refl _),List.length_nil] at fin
  exact fin
end Go.Proofs.D.S
/- A heap as it stands in memory;what its methods do with it. -/
set_option linter.unusedVariables false
set_option linter.unusedSimpArgs false
namespace Go.Proofs.D.S
open Go Go.RowKit
variable {G G' G0 G1:GH} {L R:List (Nat×Obj)}
structure HS where
  c:Cf
  tid:Nat
  sid:Nat
  mid:Nat
  mti:Nat
  oni:Nat
  mmi:Nat
  C:Nat
  sz:Nat→Nat
  g:Nat→Bool
  ms:List (Int×Int)
  es:List (V1×V1)
  live:Int
  peak:Int
  mark:Int
  met:List Int
  on:List Bool
  mem:List Int
abbrev kA:VS:=.agg [.int .i64]
def HS.cells (s:HS):List Cell:=cfC s.c++[.int .i64 s.c.G,.sl 2 s.tid 0 s.C,.sl 2 s.sid 0 s.ms.length,.map s.mid,.int .i64 s.live,.int .i64 s.peak,.int .i64 s.mark,.sl 1 s.mti 0 s.met.length,.sl 1 s.oni 0 s.on.length,.sl 1 s.mmi 0 s.mem.length]
def HS.X (s:HS) (hid:Nat):List Nat:=[hid,s.mid,s.mti,s.mmi]
structure HRaw (G:GH) (hid:Nat) (s:HS):Prop where
  w:G.wf
  row:G.get hid=some (.row s.cells false)
  map:G.get s.mid=some (.map kA s.es)
  met:G.get s.mti=some (.row (cells eI s.met) false)
  mem:G.get s.mmi=some (.row (cells eU8 s.mem) false)
  h0:1≤hid
  m0:s.mid≠0
  ne:hid≠s.mid∧hid≠s.mti∧hid≠s.mmi∧s.mid≠s.mti∧s.mid≠s.mmi∧s.mti≠s.mmi
  on:Sx (s.X hid) G eB s.oni 0 s.on
  on0:s.oni≠0
  eng:EngR (s.X hid) G s.tid s.sid s.C s.sz s.g s.ms
variable {hid:Nat} {s:HS}
theorem HRaw.ids (h:HRaw G hid s):Ids G (s.X hid):=fun x hx=>by
  simp only [HS.X,List.mem_cons,List.not_mem_nil,or_false] at hx
  rcases hx with rfl | rfl | rfl | rfl
  · exact wf_lt h.w h.row
  · exact wf_lt h.w h.map
  · exact wf_lt h.w h.met
  · exact wf_lt h.w h.mem
theorem HRaw.keep (h:HRaw G hid s) (k:Hp G G' R):HRaw G' hid s :=
  ⟨k.wf,by rw [k.old _ (wf_lt h.w h.row)];exact h.row,by rw [k.old _ (wf_lt h.w h.map)];exact h.map,by rw [k.old _ (wf_lt h.w h.met)];exact h.met,by rw [k.old _ (wf_lt h.w h.mem)];exact h.mem,h.h0,h.m0,h.ne,h.on.keep k,h.on0,h.eng.keep k⟩
theorem HRaw.ld (h:HRaw G hid s) (k:Nat):G.ld hid k=s.cells[k]?:=ld_row (row_row h.row)
theorem HRaw.sts (h:HRaw G hid s) {off:Nat} {new:List Cell} {s':HS} (hl:off+new.length≤18) (e:splice s.cells off new=s'.cells) (e1:s'.mid=s.mid) (e2:s'.mti=s.mti) (e3:s'.mmi=s.mmi) (e4:s'.es=s.es) (e5:s'.met=s.met) (e6:s'.mem=s.mem)
    (on:Sx (s.X hid) G eB s'.oni 0 s'.on) (on0:s'.oni≠0) (eng:EngR (s.X hid) G s'.tid s'.sid s'.C s'.sz s'.g s'.ms) :
    ∃ G',G.sts hid off new=some G'∧HRaw G' hid s'∧FrX (s.X hid) G G':=by
  have fr:FrX (s.X hid) G (G.set hid (some (.row s'.cells false))):=FrX.set (by simp [HS.X])
  have n:=h.ne
  have eX:s'.X hid=s.X hid:=by unfold HS.X;rw [e1,e2,e3]
  refine ⟨G.set hid (some (.row s'.cells false)),?_,⟨wf_set' h.w h.row,by rw [GH.get_set,if_pos rfl],?_,?_,?_,h.h0,by rw [e1];exact h.m0,by rw [e1,e2,e3];exact n,by rw [eX];exact on.fr fr h.w,on0,by rw [eX];exact eng.fr fr h.w⟩,fr⟩
  · unfold GH.sts
    rw [own_row h.row,Option.bind_some,if_pos (by simp [HS.cells,cfC];omega),e]
  · rw [e1,e4,GH.get_set,if_neg fun k=>n.1 k.symm];exact h.map
  · rw [e2,e5,GH.get_set,if_neg fun k=>n.2.1 k.symm];exact h.met
  · rw [e3,e6,GH.get_set,if_neg fun k=>n.2.2.1 k.symm];exact h.mem
theorem nb0 {n:Nat} (h:1≤n):(!Nat.beq n 0)=true:=by cases n with | zero=>omega | succ n=>rfl
theorem HRaw.slM (h:HRaw G hid s):Sl G eI s.mti 0 s.met:=.inr ⟨_,row_row h.met,by omega,by rw [List.drop_zero,List.take_length]⟩
theorem F30.sp (h:HRaw G hid s) (hl:s.met.length≤1000000) :
    ∃ id G',CW F30.id [.c (.ptr hid 0)] G=some ([.c (.sl 1 id 0 s.met.length)],G')∧Hp G G' [rowE eB id (s.met.map fun n=>decide (n>0))]∧id≠0:=by
  have hm:(1000000:Nat)≤most:=by unfold most;decide
  have hid0:G.next≠0:=by have:=h.w.2;omega
  have l15:∀ {G2:GH} {R:List (Nat×Obj)},Hp G G2 R→G2.ld hid 15=some (.sl 1 s.mti 0 s.met.length):=fun {G2 R} k=>by rw [(h.keep k).ld];rfl
  have h1:=(Hp.refl h.w).alloc (.row (reps s.met.length (eB false)) false)
  have e1:=l15 (Hp.refl h.w)
  have e2:=l15 h1
  rw [F30.cw]
  unfold F30.f
  rw [guardK_of (nb0 h.h0)]
  simp only [Nat.zero_add,e1,Qs]
  rw [guardD_of (by omega),Int.toNat_natCast]
  rw [show [Cell.bool false]=eB false from rfl,guardK_of (nb0 h.h0),e2]
  simp only [Qs]
  rw [reps_tab (e:=eB)] at h1 ⊢
  refine ⟨G.next,?_⟩
  generalize G.next=id at h1 hid0 ⊢
  generalize G.alloc (.row (cells eB (tab s.met.length fun _=>false)) false)=G1 at h1 ⊢
  have lp:∀ (d i:Nat) (G2:GH),i+d=s.met.length→Hp G G2 [rowE eB id (tab s.met.length fun j=>if j<i then decide (s.met.getD j 0>0) else false)] →
      ∃ G',F30.L15 machW CW id 0 s.met.length s.mti 0 s.met.length (s.met.length:Int) (i:Int) G2=some ([.c (.sl 1 id 0 s.met.length)],G')∧Hp G G' [rowE eB id (s.met.map fun n=>decide (n>0))]∧id≠0:=by
    intro d
    induction d with
    | zero =>
      intro i G2 hi k
      rw [F30.L15_eq,condD_neg (by omega)]
      refine ⟨G2,rfl,?_,hid0⟩
      rw [show (s.met.map fun n=>decide (n>0))=tab s.met.length fun j=>if j<i then decide (s.met.getD j 0>0) else false by
        apply List.ext_getElem
        · simp
        · intro j a b
          have hj:j<s.met.length:=by simpa using a
          rw [tab_get,if_pos (by omega),List.getElem_map,getD_lt _ hj]]
      exact k
    | succ d ih =>
      intro i G2 hi k
      have him:i<s.met.length:=by omega
      have r1:=(h.keep k).slM.ld i 0 him (by omega)
      rw [Nat.add_zero] at r1
      obtain ⟨G3,h3,e3⟩:=k.put (by rw [tab_len];exact him) (decide (s.met.getD i 0>0)) (off:=0+i*1) (by omega) rfl
      rw [tab_put (F:=fun j=>decide (s.met.getD j 0>0)) (g:=fun _=>false)] at h3
      rw [getD_lt _ him] at e3
      simp only [eB] at e3
      rw [F30.L15_eq,condD_pos (by omega),guardD_of (by omega)]
      simp only [Int.toNat_natCast,r1,eI,List.getElem?_cons_zero,Qs]
      rw [guardD_of (by omega),e3,q_bs,i64w,wrap_id (by omega) (by omega),show (i:Int)+1=((i+1:Nat):Int) by omega]
      exact ih (i+1) G3 (by omega) h3
  exact lp s.met.length 0 G1 (by omega) (by
    rw [show (tab s.met.length fun j=>if j<0 then decide (s.met.getD j 0>0) else false)=tab s.met.length fun _=>false from tab_congr fun j hj=>by rw [if_neg (by omega)]]
    exact h1)
theorem HRaw.setMet (h:HRaw G hid s) {met':List Int} (hl:met'.length=s.met.length) :
    HRaw (G.set s.mti (some (.row (cells eI met') false))) hid { s with met:=met' }∧FrX (s.X hid) G (G.set s.mti (some (.row (cells eI met') false))):=by
  have fr:FrX (s.X hid) G (G.set s.mti (some (.row (cells eI met') false))):=FrX.set (by simp [HS.X])
  have n:=h.ne
  refine ⟨⟨wf_set' h.w h.met,?_,?_,?_,?_,h.h0,h.m0,h.ne,h.on.fr fr h.w,h.on0,h.eng.fr fr h.w⟩,fr⟩
  · rw [GH.get_set,if_neg n.2.1,h.row];simp only [HS.cells,hl]
  · rw [GH.get_set,if_neg n.2.2.2.1];exact h.map
  · rw [GH.get_set,if_pos rfl]
  · rw [GH.get_set,if_neg fun k=>n.2.2.2.2.2 k.symm];exact h.mem
theorem HRaw.setMem (h:HRaw G hid s) {mem':List Int} (hl:mem'.length=s.mem.length) :
    HRaw (G.set s.mmi (some (.row (cells eU8 mem') false))) hid { s with mem:=mem' }∧FrX (s.X hid) G (G.set s.mmi (some (.row (cells eU8 mem') false))):=by
  have fr:FrX (s.X hid) G (G.set s.mmi (some (.row (cells eU8 mem') false))):=FrX.set (by simp [HS.X])
  have n:=h.ne
  refine ⟨⟨wf_set' h.w h.mem,?_,?_,?_,?_,h.h0,h.m0,h.ne,h.on.fr fr h.w,h.on0,h.eng.fr fr h.w⟩,fr⟩
  · rw [GH.get_set,if_neg n.2.2.1,h.row];simp only [HS.cells,hl]
  · rw [GH.get_set,if_neg n.2.2.2.2.1];exact h.map
  · rw [GH.get_set,if_neg n.2.2.2.2.2];exact h.met
  · rw [GH.get_set,if_pos rfl]
theorem HRaw.setMap (h:HRaw G hid s) (es':List (V1×V1)) :
    HRaw (G.set s.mid (some (.map kA es'))) hid { s with es:=es' }∧FrX (s.X hid) G (G.set s.mid (some (.map kA es'))):=by
  have fr:FrX (s.X hid) G (G.set s.mid (some (.map kA es'))):=FrX.set (by simp [HS.X])
  have n:=h.ne
  refine ⟨⟨wf_set' h.w h.map,?_,?_,?_,?_,h.h0,h.m0,h.ne,h.on.fr fr h.w,h.on0,h.eng.fr fr h.w⟩,fr⟩
  · rw [GH.get_set,if_neg n.1];exact h.row
  · rw [GH.get_set,if_pos rfl]
  · rw [GH.get_set,if_neg fun k=>n.2.2.2.1 k.symm];exact h.met
  · rw [GH.get_set,if_neg fun k=>n.2.2.2.2.1 k.symm];exact h.mem
theorem HRaw.ents (h:HRaw G hid s):G.ents kA s.mid=some s.es:=by unfold GH.ents;rw [h.map];simp
def metQ (met:List Int) (first behind by_:Int):List Int:=tab met.length fun i=>met.getD i 0+if first≤(i:Int)∧(i:Int)<behind then by_ else 0
theorem metQ_len {met:List Int} {a b c:Int}:(metQ met a b c).length=met.length:=by simp [metQ]
theorem F31.sp (h:HRaw G hid s) (hl:s.met.length≤1000000) (hb:∀ x∈s.met,-1000000≤x∧x≤1000000) {a ch asked by_:Int} (hpg:1≤s.c.Pg) (ha:0≤a∧a≤65536) (hn:0≤ch∧ch≤65536) (hby:-1≤by_∧by_≤1) :
    ∃ G',CW F31.id [.c (.ptr hid 0),.agg [.int .i64 a,.int .i64 ch,.int .i64 asked],.c (.int .i64 by_)] G=some ([],G')∧HRaw G' hid { s with met:=metQ s.met (pagesP s.c.Pg a ch).1 (pagesP s.c.Pg a ch).2 by_ }∧FrX (s.X hid) G G':=by
  have p0:0≤(pagesP s.c.Pg a ch).1∧(pagesP s.c.Pg a ch).1≤65536:=by
    have q0:=Int.ediv_nonneg ha.1 (show 0≤s.c.Pg by omega)
    have q1:=Int.ediv_le_self s.c.Pg ha.1
    unfold pagesP
    split <;> exact ⟨q0,by dsimp only;omega⟩
  obtain ⟨f,ef⟩:∃ f:Nat,(pagesP s.c.Pg a ch).1=(f:Int):=⟨(pagesP s.c.Pg a ch).1.toNat,by omega⟩
  obtain ⟨bh,eb⟩:∃ b,(pagesP s.c.Pg a ch).2=b:=⟨_,rfl⟩
  have e4:G.ld hid 4=some (.int .i64 s.c.Pg):=by rw [h.ld];rfl
  have pp:=F94.sp (G:=G) hpg ha hn
  rw [F31.cw]
  unfold F31.f
  rw [guardK_of (nb0 h.h0)]
  simp only [Nat.zero_add,e4,Qs]
  rw [pp]
  simp only [Qs]
  rw [ef,eb]
  let F:Nat→Nat→Int:=fun k i=>s.met.getD i 0+if (f:Int)≤(i:Int)∧(i:Int)<bh∧i<k then by_ else 0
  have lp:∀ (d k:Nat) (G2:GH),k+d=max k s.met.length→f≤k→HRaw G2 hid { s with met:=tab s.met.length (F k) }→FrX (s.X hid) G G2 →
      ∃ G',F31.L13 machW CW hid 0 by_ bh (k:Int) G2=some ([],G')∧HRaw G' hid { s with met:=metQ s.met (f:Int) bh by_ }∧FrX (s.X hid) G G':=by
    intro d
    induction d with
    | zero =>
      intro k G2 hk hfk h2 fr
      have e15:G2.ld hid 15=some (.sl 1 s.mti 0 s.met.length):=by rw [h2.ld];simp [HS.cells,cfC]
      rw [F31.L13_eq,guardK_of (nb0 h.h0)]
      simp only [Nat.zero_add,e15,Qs]
      rw [mn2_eq,condD_neg (by omega)]
      refine ⟨G2,rfl,?_,fr⟩
      rw [show metQ s.met (f:Int) bh by_=tab s.met.length (F k) from tab_congr fun i hi=>by
        simp only [F]
        congr 1
        by_cases hx:(f:Int)≤(i:Int)∧(i:Int)<bh
        · rw [if_pos hx,if_pos ⟨hx.1,hx.2,by omega⟩]
        · rw [if_neg hx,if_neg fun y=>hx ⟨y.1,y.2.1⟩]]
      exact h2
    | succ d ih =>
      intro k G2 hk hfk h2 fr
      have e15:G2.ld hid 15=some (.sl 1 s.mti 0 s.met.length):=by rw [h2.ld];simp [HS.cells,cfC]
      have hkl:k<s.met.length:=by omega
      rw [F31.L13_eq,guardK_of (nb0 h.h0)]
      simp only [Nat.zero_add,e15,Qs]
      rw [mn2_eq]
      by_cases hkb:(k:Int)<bh
      · rw [condD_pos (by omega),guardK_of (nb0 h.h0)]
        rw [guardD_of (by omega)]
        have r1:=h2.slM.ld k 0 (by simpa using hkl) (by omega)
        simp only [Nat.zero_add,Nat.add_zero] at r1
        rw [tab_get (by simpa using hkl)] at r1
        have hF:F k k=s.met[k]:=by simp only [F];rw [if_neg (by omega),getD_lt _ hkl,Int.add_zero]
        rw [hF] at r1
        have hbk:=hb _ (List.getElem_mem hkl)
        obtain ⟨h3,fr3⟩:=h2.setMet (met':=(tab s.met.length (F k)).set k (s.met[k]+by_)) (by simp)
        have e3:G2.sts s.mti (k*1) [.int .i64 (s.met[k]+by_)]=some (G2.set s.mti (some (.row (cells eI ((tab s.met.length (F k)).set k (s.met[k]+by_))) false))):=by
          unfold GH.sts
          rw [own_row h2.met,Option.bind_some,if_pos (by rw [cells_len];simp;omega)]
          rw [show [Cell.int .i64 (s.met[k]+by_)]=eI (s.met[k]+by_) from rfl,cells_set (e:=eI) _ k _ (by simpa using hkl)]
        simp only [Int.toNat_natCast,r1,eI,List.getElem?_cons_zero,Qs]
        rw [guardD_of (by omega),i64w,wrap_id (by omega) (by omega),e3,q_bs,i64w,wrap_id (by omega) (by omega),show (k:Int)+1=((k+1:Nat):Int) by omega]
        refine ih (k+1) _ (by omega) (by omega) ?_ (fr.trans fr3)
        rw [show tab s.met.length (F (k+1))=(tab s.met.length (F k)).set k (s.met[k]+by_) by
          rw [tab_set]
          refine tab_congr fun i hi=>?_
          simp only [F]
          by_cases hik:i=k
          · subst hik;rw [if_pos rfl,if_pos ⟨by omega,hkb,by omega⟩,getD_lt _ hkl]
          · rw [if_neg hik]
            congr 1
            by_cases hx:(f:Int)≤(i:Int)∧(i:Int)<bh∧i<k
            · rw [if_pos hx,if_pos ⟨hx.1,hx.2.1,by omega⟩]
            · rw [if_neg hx,if_neg fun y=>hx ⟨y.1,y.2.1,by omega⟩]]
        exact h3
      · rw [condD_neg (by omega)]
        refine ⟨G2,rfl,?_,fr⟩
        rw [show metQ s.met (f:Int) bh by_=tab s.met.length (F k) from tab_congr fun i hi=>by
          simp only [F]
          congr 1
          by_cases hx:(f:Int)≤(i:Int)∧(i:Int)<bh
          · rw [if_pos hx,if_pos ⟨hx.1,hx.2,by omega⟩]
          · rw [if_neg hx,if_neg fun y=>hx ⟨y.1,y.2.1⟩]]
        exact h2
  exact lp (max f s.met.length-f) f G (by omega) (Nat.le_refl _) (by
    rw [show tab s.met.length (F f)=s.met by
      conv=>rhs;rw [← tab_list s.met 0]
      exact tab_congr fun i hi=>by simp only [F];rw [if_neg (by omega),Int.add_zero]]
    exact h) FrX.refl
end Go.Proofs.D.S
/- A block comes back,a block goes. -/
set_option linter.unusedVariables false
set_option linter.unusedSimpArgs false
namespace Go.Proofs.D.S
open Go Go.RowKit
variable {G G' G0 G1:GH} {L R:List (Nat×Obj)}
variable {hid:Nat} {s:HS}
abbrev kv (a:Int):V1:=.agg [.int .i64 a]
abbrev bv (a ch asked:Int):V1:=.agg [.int .i64 a,.int .i64 ch,.int .i64 asked]
def HS.eng (s:HS) (tid sid:Nat) (g:Nat→Bool) (ms:List (Int×Int)):HS:={ s with tid:=tid,sid:=sid,g:=g,ms:=ms }
theorem HRaw.setEng (h:HRaw G hid s) {tid sid:Nat} {g:Nat→Bool} {ms:List (Int×Int)} (e:EngR (s.X hid) G tid sid s.C s.sz g ms) :
    ∃ G',G.sts hid 8 [.int .i64 s.c.G,.sl 2 tid 0 s.C,.sl 2 sid 0 ms.length]=some G'∧HRaw G' hid (s.eng tid sid g ms)∧FrX (s.X hid) G G' :=
  h.sts (s':=s.eng tid sid g ms) (by simp) rfl rfl rfl rfl rfl rfl rfl h.on h.on0 e
theorem HRaw.setLive (h:HRaw G hid s) (v:Int):∃ G',G.sts hid 12 [.int .i64 v]=some G'∧HRaw G' hid { s with live:=v }∧FrX (s.X hid) G G' :=
  h.sts (s':={ s with live:=v }) (by simp) rfl rfl rfl rfl rfl rfl rfl h.on h.on0 h.eng
theorem HRaw.setPeak (h:HRaw G hid s) (v:Int):∃ G',G.sts hid 13 [.int .i64 v]=some G'∧HRaw G' hid { s with peak:=v }∧FrX (s.X hid) G G' :=
  h.sts (s':={ s with peak:=v }) (by simp) rfl rfl rfl rfl rfl rfl rfl h.on h.on0 h.eng
theorem HRaw.setMark (h:HRaw G hid s) (v:Int):∃ G',G.sts hid 14 [.int .i64 v]=some G'∧HRaw G' hid { s with mark:=v }∧FrX (s.X hid) G G' :=
  h.sts (s':={ s with mark:=v }) (by simp) rfl rfl rfl rfl rfl rfl rfl h.on h.on0 h.eng
theorem HRaw.setOn (h:HRaw G hid s) {oni:Nat} {on:List Bool} (o:Sx (s.X hid) G eB oni 0 on) (o0:oni≠0):∃ G',G.sts hid 16 [.sl 1 oni 0 on.length]=some G'∧HRaw G' hid { s with oni:=oni,on:=on }∧FrX (s.X hid) G G' :=
  h.sts (s':={ s with oni:=oni,on:=on }) (by simp) rfl rfl rfl rfl rfl rfl rfl o o0 h.eng
structure HSm (s:HS):Prop where
  met:s.met.length≤1000000
  mets:∀ x∈s.met,-1000000≤x∧x≤1000000
  pg:1≤s.c.Pg
  live:-1000000≤s.live∧s.live≤1000000
theorem F46.sp (h:HRaw G hid s) (z:HSm s) {a ch asked:Int} (ha:0≤a∧a≤65536) (hn:0≤ch∧ch≤65536) {tid sid:Nat} {g:Nat→Bool} {ms:List (Int×Int)} (e:EngR (s.X hid) G tid sid s.C s.sz g ms) :
    ∃ G',CW F46.id [.c (.ptr hid 0),bv a ch asked,.agg [.int .i64 s.c.G,.sl 2 tid 0 s.C,.sl 2 sid 0 ms.length]] G=some ([],G') ∧
      HRaw G' hid { s.eng tid sid g ms with es:=mapPut s.es (kv a) (bv a ch asked),met:=metQ s.met (pagesP s.c.Pg a ch).1 (pagesP s.c.Pg a ch).2 1,live:=s.live+ch }∧FrX (s.X hid) G G':=by
  obtain ⟨G1,e1,h1,f1⟩:=h.setEng e
  have l11:G1.ld hid 11=some (.map s.mid):=by rw [h1.ld];rfl
  obtain ⟨h2,f2⟩:=h1.setMap (mapPut s.es (kv a) (bv a ch asked))
  obtain ⟨G3,e3,h3,f3⟩:=F31.sp h2 z.met z.mets (a:=a) (ch:=ch) (asked:=asked) (by_:=1) z.pg ha hn (by omega)
  have l12:G3.ld hid 12=some (.int .i64 s.live):=by rw [h3.ld];rfl
  obtain ⟨G4,e4,h4,f4⟩:=h3.setLive (s.live+ch)
  refine ⟨G4,?_,h4,((f1.trans f2).trans f3).trans f4⟩
  have en:=h1.ents
  rw [F46.cw]
  unfold F46.f
  rw [guardK_of (nb0 h.h0)]
  simp only [Nat.zero_add]
  rw [e1,q_bs,guardK_of (nb0 h.h0),l11]
  simp only [Qs]
  rw [show G1.ents (.agg [.int .i64]) s.mid=some s.es from en,q_bs]
  have e3':CW F31.id [.c (.ptr hid 0),.agg [.int .i64 a,.int .i64 ch,.int .i64 asked],.c (.int .i64 1)] (G1.set s.mid (some (.map (.agg [.int .i64]) (mapPut s.es (.agg [.int .i64 a]) (.agg [.int .i64 a,.int .i64 ch,.int .i64 asked])))))=some ([],G3):=e3
  rw [e3',q_bs,guardK_of (nb0 h.h0),l12]
  have zl:=z.live
  simp only [Qs]
  rw [guardK_of (nb0 h.h0),i64w,wrap_id (by omega) (by omega),e4,q_bs]
theorem F50.sp (h:HRaw G hid s) (z:HSm s) (so:SzOk s.C s.sz) {Gg k q i:Nat} (eG:s.c.G=(Gg:Int)) (hG:1≤Gg∧Gg*s.sz 0≤65536) (hk:k<s.C) (hi:i<s.ms.length) (hm:s.ms[i]=(((q*Gg:Nat):Int),(k:Int))) (hq:q+2 ^ k≤s.sz 0)
    {a ch asked:Int} (ea:a=((q*Gg:Nat):Int)) (ha:0≤a∧a≤65536) (hn:0≤ch∧ch≤65536) :
    ∃ (tid sid:Nat) (G':GH),CW F50.id [.c (.ptr hid 0),bv a ch asked] G=some ([],G') ∧
      HRaw G' hid { s.eng tid sid (useG false q (q+2 ^ k-1) s.g) (s.ms.take i++s.ms.drop (i+1)) with es:=mapDel s.es (kv a),met:=metQ s.met (pagesP s.c.Pg a ch).1 (pagesP s.c.Pg a ch).2 (-1),live:=s.live-ch }∧FrX (s.X hid) G G':=by
  obtain ⟨tid,sid,G0,r1,r2,r3⟩:=F61.sp h.w h.eng so h.ids hG hk hi hm hq
  have h0:=h.keep r2
  obtain ⟨G1,e1,h1,f1⟩:=h0.setEng r3
  have l11:G1.ld hid 11=some (.map s.mid):=by rw [h1.ld];rfl
  obtain ⟨h2,f2⟩:=h1.setMap (mapDel s.es (kv a))
  obtain ⟨G3,e3,h3,f3⟩:=F31.sp h2 z.met z.mets (a:=a) (ch:=ch) (asked:=asked) (by_:=-1) z.pg ha hn (by omega)
  have l12:G3.ld hid 12=some (.int .i64 s.live):=by rw [h3.ld];rfl
  obtain ⟨G4,e4,h4,f4⟩:=h3.setLive (s.live-ch)
  refine ⟨tid,sid,G4,?_,h4,(((FrX.hp r2).trans f1).trans f2).trans (f3.trans f4)⟩
  have en:=h1.ents
  have l8:G.ld hid 8=some (.int .i64 (Gg:Int)):=by rw [h.ld,← eG];rfl
  have l9:G.ld hid 9=some (.sl 2 s.tid 0 s.C):=by rw [h.ld];rfl
  have l10:G.ld hid 10=some (.sl 2 s.sid 0 s.ms.length):=by rw [h.ld];rfl
  have elen:(s.ms.take i++s.ms.drop (i+1)).length=s.ms.length-1:=by
    simp only [List.length_append,List.length_take,List.length_drop];omega
  rw [elen,eG] at e1
  rw [F50.cw]
  unfold F50.f
  rw [guardK_of (nb0 h.h0)]
  simp only [Nat.zero_add,Nat.add_zero,Nat.reduceAdd,l8,l9,l10,Qs]
  rw [ea,r1]
  simp only [Qs,List.length_cons,List.length_nil,if_true,Nat.zero_add,Nat.reduceAdd]
  rw [guardK_of (nb0 h.h0),e1,q_bs,guardK_of (nb0 h.h0),l11]
  simp only [Qs]
  rw [show G1.ents (.agg [.int .i64]) s.mid=some s.es from en,q_bs]
  rw [ea] at e3
  have e3':CW F31.id [.c (.ptr hid 0),.agg [.int .i64 ((q*Gg:Nat):Int),.int .i64 ch,.int .i64 asked],.c (.int .i64 (-1))] (G1.set s.mid (some (.map (.agg [.int .i64]) (mapDel s.es (.agg [.int .i64 ((q*Gg:Nat):Int)])))))=some ([],G3):=e3
  rw [e3',q_bs,guardK_of (nb0 h.h0),l12]
  have zl:=z.live
  simp only [Qs]
  rw [guardK_of (nb0 h.h0),i64w,wrap_id (by omega) (by omega),e4,q_bs]
end Go.Proofs.D.S
/- A block is placed in a heap. -/
set_option linter.unusedVariables false
set_option linter.unusedSimpArgs false
namespace Go.Proofs.D.S
open Go Go.RowKit
variable {G G' G0 G1:GH} {L R:List (Nat×Obj)}
variable {hid:Nat} {s:HS}
theorem puts_fill {u2 u3 u4:Int} {a1 a2 a3 b1 b3 n8:Nat} {e0:Int} {t1 t2 t3 d1 d2 d3:Nat} {page pg:Nat} (hpg:1≤pg∧pg≤65536) (ePg:s.c.Pg=(pg:Int)) (hsd:0≤s.c.Sd) (hlen:page*pg+pg≤s.mem.length) (hl:s.mem.length≤65536) (u9:Nat) :
    ∀ (d i:Nat) (G2:GH),i+d=pg→HRaw G2 hid { s with mem:=tab s.mem.length fun j=>if j / pg=page∧j % pg<i then u8w (byteP s.c.Sd (page:Int) ((j % pg:Nat):Int)) else s.mem.getD j 0 }→FrX (s.X hid) G G2 →
      ∃ G',F48.L38 machW CW hid 0 u2 u3 u4 a1 a2 a3 (page:Int) b1 0 b3 (n8:Int) (u9:Int) (pg:Int) (i:Int) e0 t1 t2 t3 d1 d2 d3 G2 =
          F48.L47 machW CW hid 0 u2 u3 u4 a1 a2 a3 b1 0 b3 (n8:Int) (IntKind.i64.wrap ((u9:Int)+1)) e0 t1 t2 t3 d1 d2 d3 G' ∧
        HRaw G' hid { s with mem:=fillP s.mem s.c.Sd (page:Int) s.c.Pg }∧FrX (s.X hid) G G':=by
  intro d
  induction d with
  | zero =>
    intro i G2 hi h fr
    rw [F48.L38_eq,condD_neg (by omega)]
    refine ⟨G2,rfl,?_,fr⟩
    rw [show fillP s.mem s.c.Sd (page:Int) s.c.Pg=tab s.mem.length fun j=>if j / pg=page∧j % pg<i then u8w (byteP s.c.Sd (page:Int) ((j % pg:Nat):Int)) else s.mem.getD j 0 from tab_congr fun j hj=>by
      have hmod:=Nat.mod_lt j (show 0<pg by omega)
      rw [ePg,← Int.natCast_ediv,← Int.natCast_emod]
      by_cases hx:j / pg=page
      · rw [if_pos (by rw [hx]),if_pos ⟨hx,by omega⟩]
      · rw [if_neg (fun k=>hx (Int.ofNat_inj.1 k)),if_neg (fun k=>hx k.1)]]
    exact h
  | succ d ih =>
    intro i G2 hi h fr
    have hip:i<pg:=by omega
    have hj:page*pg+i<s.mem.length:=by omega
    have l17:G2.ld hid 17=some (.sl 1 s.mmi 0 s.mem.length):=by rw [h.ld];simp [HS.cells,cfC]
    have l4:G2.ld hid 4=some (.int .i64 (pg:Int)):=by rw [h.ld,← ePg];rfl
    have l7:G2.ld hid 7=some (.int .i64 s.c.Sd):=by rw [h.ld];rfl
    have hmd:(page*pg+i) / pg=page∧(page*pg+i) % pg=i:=by
      constructor
      · rw [Nat.mul_comm,Nat.mul_add_div (by omega),Nat.div_eq_of_lt hip,Nat.add_zero]
      · rw [Nat.mul_comm,Nat.mul_add_mod,Nat.mod_eq_of_lt hip]
    obtain ⟨h3,fr3⟩:=h.setMem (mem':=(tab s.mem.length fun j=>if j / pg=page∧j % pg<i then u8w (byteP s.c.Sd (page:Int) ((j % pg:Nat):Int)) else s.mem.getD j 0).set (page*pg+i) (u8w (byteP s.c.Sd (page:Int) (i:Int)))) (by simp)
    have e3:G2.sts s.mmi ((page*pg+i)*1) [.int .u8 (u8w (byteP s.c.Sd (page:Int) (i:Int)))]=some (G2.set s.mmi (some (.row (cells eU8 ((tab s.mem.length fun j=>if j / pg=page∧j % pg<i then u8w (byteP s.c.Sd (page:Int) ((j % pg:Nat):Int)) else s.mem.getD j 0).set (page*pg+i) (u8w (byteP s.c.Sd (page:Int) (i:Int))))) false))):=by
      unfold GH.sts
      rw [own_row h.mem,Option.bind_some,if_pos (by rw [cells_len];simp;omega)]
      rw [show [Cell.int .u8 (u8w (byteP s.c.Sd (page:Int) (i:Int)))]=eU8 (u8w (byteP s.c.Sd (page:Int) (i:Int))) from rfl,cells_set (e:=eU8) _ _ _ (by simpa using hj)]
    have hpp:page*pg≤65536:=by omega
    have ei:IntKind.i64.wrap (IntKind.i64.wrap ((page:Int)*(pg:Int))+(i:Int))=((page*pg+i:Nat):Int):=by
      rw [← Int.natCast_mul]
      simp only [i64w]
      generalize page*pg=A at *
      rw [wrap_id (a:=(A:Int)) (by omega) (by omega),wrap_id (by omega) (by omega)];omega
    rw [F48.L38_eq,condD_pos (by omega),guardK_of (nb0 h.h0)]
    simp only [Nat.zero_add,l17,Qs]
    rw [guardK_of (nb0 h.h0),l4]
    simp only [Qs]
    rw [guardK_of (nb0 h.h0),l7]
    simp only [Qs]
    rw [F100.sp hsd (by omega) (by omega)]
    simp only [l17,l4,Qs]
    rw [guardD_of trivial,guardD_of trivial,ei,guardD_of (by omega),Int.toNat_natCast,e3,q_bs,i64w,wrap_id (by omega) (by omega),show (i:Int)+1=((i+1:Nat):Int) by omega]
    refine ih (i+1) _ (by omega) ?_ (fr.trans fr3)
    rw [show (tab s.mem.length fun j=>if j / pg=page∧j % pg<i+1 then u8w (byteP s.c.Sd (page:Int) ((j % pg:Nat):Int)) else s.mem.getD j 0)=(tab s.mem.length fun j=>if j / pg=page∧j % pg<i then u8w (byteP s.c.Sd (page:Int) ((j % pg:Nat):Int)) else s.mem.getD j 0).set (page*pg+i) (u8w (byteP s.c.Sd (page:Int) (i:Int))) by
      rw [tab_set]
      refine tab_congr fun j hj=>?_
      by_cases hji:j=page*pg+i
      · rw [if_pos hji,hji,hmd.1,hmd.2,if_pos ⟨rfl,by omega⟩]
      · rw [if_neg hji]
        by_cases hx:j / pg=page∧j % pg<i
        · rw [if_pos hx,if_pos ⟨hx.1,by omega⟩]
        · rw [if_neg hx,if_neg fun y=>?_]
          have hz:j % pg=i:=by
            by_cases hq:j % pg<i
            · exact absurd ⟨y.1,hq⟩ hx
            · omega
          have:=Nat.div_add_mod j pg
          rw [y.1,hz,Nat.mul_comm] at this
          exact hji this.symm]
    exact h3
def fillsP (c:Cf) (fr:List Int) (mem:List Int):List Int:=fr.foldl (fun mem p=>fillP mem c.Sd p c.Pg) mem
theorem fillP_ln {mem:List Int} {a b c:Int}:(fillP mem a b c).length=mem.length:=by simp [fillP]
theorem fillsP_len {c:Cf}:∀ (fr mem:List Int),(fillsP c fr mem).length=mem.length
  | [],mem=>rfl
  | p::fr,mem=>by
    show (fillsP c fr (fillP mem c.Sd p c.Pg)).length=_
    rw [fillsP_len fr,fillP_ln]
theorem puts_pages {u2 u3 u4:Int} {a1 a2 a3 fid:Nat} {e0:Int} {t1 t2 t3 d1 d2 d3:Nat} {pg:Nat} {fr:List Int} (h:HRaw G hid s) (hpg:1≤pg∧pg≤65536) (ePg:s.c.Pg=(pg:Int)) (hsd:0≤s.c.Sd) (hl:s.mem.length≤65536) (sf:Sx (s.X hid) G eI fid 0 fr)
    (hfr:∀ p∈fr,∃ q:Nat,p=(q:Int)∧q*pg+pg≤s.mem.length) (hfl:fr.length≤1000000) :
    ∀ (d k:Nat) (G2:GH),k+d=fr.length→HRaw G2 hid { s with mem:=fillsP s.c (fr.take k) s.mem }→FrX (s.X hid) G G2 →
      ∃ G',F48.L47 machW CW hid 0 u2 u3 u4 a1 a2 a3 fid 0 fr.length (fr.length:Int) (k:Int) e0 t1 t2 t3 d1 d2 d3 G2 =
          F48.L47 machW CW hid 0 u2 u3 u4 a1 a2 a3 fid 0 fr.length (fr.length:Int) (fr.length:Int) e0 t1 t2 t3 d1 d2 d3 G' ∧
        HRaw G' hid { s with mem:=fillsP s.c fr s.mem }∧FrX (s.X hid) G G':=by
  intro d
  induction d with
  | zero =>
    intro k G2 hk h2 f2
    have:k=fr.length:=by omega
    subst this
    rw [List.take_length] at h2
    exact ⟨G2,rfl,h2,f2⟩
  | succ d ih =>
    intro k G2 hk h2 f2
    have hkl:k<fr.length:=by omega
    obtain ⟨q,hq,hq2⟩:=hfr _ (List.getElem_mem hkl)
    have r1:=(sf.fr f2 h.w).1.ld k 0 hkl (by omega)
    rw [Nat.add_zero] at r1
    have l4:G2.ld hid 4=some (.int .i64 (pg:Int)):=by rw [h2.ld,← ePg];rfl
    obtain ⟨G3,e3,h3,f3⟩:=puts_fill (G:=G2) (s:={ s with mem:=fillsP s.c (fr.take k) s.mem }) (u2:=u2) (u3:=u3) (u4:=u4) (a1:=a1) (a2:=a2) (a3:=a3) (b1:=fid) (b3:=fr.length) (n8:=fr.length) (e0:=e0) (t1:=t1) (t2:=t2) (t3:=t3) (d1:=d1) (d2:=d2) (d3:=d3) (page:=q) hpg ePg hsd (by dsimp only;rw [fillsP_len];exact hq2) (by dsimp only;rw [fillsP_len];exact hl) k pg 0 G2 (by omega) (by
      rw [show (tab (fillsP s.c (fr.take k) s.mem).length fun j=>if j / pg=q∧j % pg<0 then u8w (byteP s.c.Sd (q:Int) ((j % pg:Nat):Int)) else (fillsP s.c (fr.take k) s.mem).getD j 0)=fillsP s.c (fr.take k) s.mem by
        conv=>rhs;rw [← tab_list (fillsP s.c (fr.take k) s.mem) 0]
        exact tab_congr fun j hj=>by rw [if_neg (by omega)]]
      exact h2) FrX.refl
    rw [F48.L47_eq,condD_pos (by omega),guardD_of (by omega)]
    simp only [Int.toNat_natCast,r1,eI,List.getElem?_cons_zero,Qs]
    rw [guardK_of (nb0 h.h0)]
    simp only [Nat.zero_add,l4,Qs]
    rw [hq,show (0:Int)=((0:Nat):Int) from rfl,e3,i64w,wrap_id (by omega) (by omega),show (k:Int)+1=((k+1:Nat):Int) by omega]
    refine ih (k+1) G3 (by omega) ?_ (f2.trans f3)
    rw [show fillsP s.c (fr.take (k+1)) s.mem=fillP (fillsP s.c (fr.take k) s.mem) s.c.Sd (q:Int) s.c.Pg by
      unfold fillsP
      rw [List.take_add_one,List.getElem?_eq_getElem hkl,List.foldl_append,hq];rfl]
    exact h3
end Go.Proofs.D.S
/- A block is placed in a heap: the whole. -/
set_option linter.unusedVariables false
set_option linter.unusedSimpArgs false
namespace Go.Proofs.D.S
open Go Go.RowKit
variable {G G' G0 G1:GH} {L R:List (Nat×Obj)}
variable {hid:Nat} {s:HS}
theorem commitP_sm {on met x:List Bool} {fr:List Int} {a b m:Int} (h:commitP on met a b m=some (x,fr)):x.length=on.length∧fr=freshP on a b on.length:=by
  unfold commitP at h
  split at h
  · cases h
  · simp only [Option.some.injEq,Prod.mk.injEq] at h
    obtain ⟨h1,h2⟩:=h
    refine ⟨?_,h2.symm⟩
    rw [← h1]
    split
    · simp
    · simp [allP]
theorem F48.sp (h:HRaw G hid s) (z:HSm s) (so:SzOk s.C s.sz) (ok:s.c.Ok) {e l k pg Gg:Nat} (ex:s.c.Ex e l) (hC:s.C=l+1) (hk:k≤l) {ch asked:Int} (hch:ch=((2 ^ (e+k):Nat):Int)) (eG:Gg=2 ^ e) (hG:Gg*s.sz 0=s.mem.length) (hmem:s.mem.length≤65536)
    (ePg:s.c.Pg=(pg:Int)) (hpg:1≤pg) (hon:s.on.length*pg=s.mem.length) (hmet:s.met.length=s.on.length) (hfr:∃ p,occ s.g k p=false) (hne:∀ z,occ s.g k z=false→∀ m∈s.ms,m.1≠((z*2 ^ k*Gg:Nat):Int)) (hml:s.ms.length+1≤100000) :
    ∃ (q i:Nat) (at_:Int),at_=((q*2 ^ k*Gg:Nat):Int)∧q<s.sz k∧occ s.g k q=false∧(∀ p,p<q→occ s.g k p=true) ∧
      i≤s.ms.length∧(∀ (p:Nat) (h:p<s.ms.length),p<i→s.ms[p].1<at_)∧(∀ (p:Nat) (h:p<s.ms.length),i≤p→at_<s.ms[p].1) ∧
      ((commitP s.on (s.met.map fun n=>decide (n>0)) (pagesP s.c.Pg at_ ch).1 (pagesP s.c.Pg at_ ch).2 s.c.P=none ∧
          ∃ G',CW F48.id [.c (.ptr hid 0),.c (.int .i64 ch),.c (.int .i64 asked)] G=some ([.c (.int .i64 0),.c (.int .i64 6)],G')∧HRaw G' hid s∧FrX (s.X hid) G G') ∨
       (∃ on' fr,commitP s.on (s.met.map fun n=>decide (n>0)) (pagesP s.c.Pg at_ ch).1 (pagesP s.c.Pg at_ ch).2 s.c.P=some (on',fr) ∧
          ∃ (tid sid oni:Nat) (G':GH),CW F48.id [.c (.ptr hid 0),.c (.int .i64 ch),.c (.int .i64 asked)] G=some ([.c (.int .i64 at_),.c (.int .i64 0)],G') ∧
            HRaw G' hid { s.eng tid sid (useG true (q*2 ^ k) (q*2 ^ k+2 ^ k-1) s.g) (insM s.ms i (at_,(k:Int))) with oni:=oni,on:=on',mem:=fillsP s.c fr s.mem,es:=mapPut s.es (kv at_) (bv at_ ch asked),met:=metQ s.met (pagesP s.c.Pg at_ ch).1 (pagesP s.c.Pg at_ ch).2 1,live:=s.live+ch,peak:=max s.peak (s.live+ch),mark:=max s.mark (at_+ch) }∧FrX (s.X hid) G G')):=by
  have f:=ok.facts
  have zl:=z.live
  have hg1:1≤Gg:=by rw [eG];exact Nat.two_pow_pos e
  have eGc:s.c.G=(Gg:Int):=by rw [ex.hG,eG]
  obtain ⟨q,i,tid,sid,G1,p1,p2,p3,p4,p5,p6,p7,p8,p9⟩:=F76.sp h.w h.eng so h.ids (Gg:=Gg) (k:=k) ⟨hg1,by omega⟩ (by omega) hfr hne hml
  have hpk:=so.pw k (by omega)
  have hchn:ch=((2 ^ k*Gg:Nat):Int):=by rw [hch,eG,Nat.pow_add,Nat.mul_comm]
  have hend:q*2 ^ k*Gg+2 ^ k*Gg≤s.mem.length:=by
    have h1:(q+1)*2 ^ k≤s.sz 0:=by rw [← hpk];exact Nat.mul_le_mul_right _ p4
    have h2:=Nat.mul_le_mul_right Gg h1
    rw [Nat.mul_comm (s.sz 0),hG,Nat.add_mul,Nat.one_mul,Nat.add_mul] at h2
    exact h2
  obtain ⟨A,eA⟩:∃ A,q*2 ^ k*Gg=A:=⟨_,rfl⟩
  obtain ⟨Cn,eC⟩:∃ Cn,2 ^ k*Gg=Cn:=⟨_,rfl⟩
  have hCn:1≤Cn:=by rw [← eC];exact Nat.mul_pos (Nat.two_pow_pos k) hg1
  rw [eA] at p1 p3 p8 p9 hend
  rw [eC] at hchn hend
  refine ⟨q,i,(A:Int),by rw [eA],p4,p5,p6,p7,p8,p9,?_⟩
  have h1:=h.keep p2
  have sh:=shiftS_pow (g:=e) (l:=l) hk
  rw [← hch] at sh
  have cl:=F73.sp (G:=G) ex (ch:=ch) (by unfold R64;omega)
  rw [sh] at cl
  have hPg:s.c.Pg≤65536:=f.2.2.2.2.1.2
  have pp:=F94.sp (G:=G1) (pg:=s.c.Pg) (a:=(A:Int)) (n:=ch) (by omega) (by omega) (by omega)
  have efb:pagesP s.c.Pg (A:Int) ch=(((A / pg:Nat):Int),(((A+Cn-1) / pg+1:Nat):Int)):=by
    unfold pagesP
    rw [if_neg (by omega),ePg,hchn,← Int.natCast_ediv,show (A:Int)+(Cn:Int)-1=((A+Cn-1:Nat):Int) by omega,← Int.natCast_ediv]
    rfl
  have hb:(A+Cn-1) / pg+1≤s.on.length:=by
    have:(A+Cn-1) / pg<s.on.length:=(Nat.div_lt_iff_lt_mul (by omega)).2 (by rw [hon];omega)
    exact this
  have hfb:A / pg≤(A+Cn-1) / pg+1:=by have:=Nat.div_le_div_right (c:=pg) (show A≤A+Cn-1 by omega);omega
  obtain ⟨mid_,G2,m1,m2,m3⟩:=F30.sp h1 z.met
  have h2:=h1.keep m2
  have onl:s.on.length≤1000000:=by have:=z.met;omega
  have cm:=F59.sp h2.w (met:=s.met.map fun n=>decide (n>0)) (mi:=mid_) h2.on0 m3 h2.on.1 m2.sl0 (by simp [hmet]) (first:=A / pg) (behind:=(A+Cn-1) / pg+1) (mx:=s.c.P) hfb hb (by omega)
  obtain ⟨oid,fid,on',fr,okb,G3,c1,c2,c3⟩:=cm
  have e1:=congrArg Prod.fst efb
  have e2:=congrArg Prod.snd efb
  dsimp only at e1 e2
  rw [← e1,← e2] at c1 c3
  have h3:=h2.keep c2
  have f3:FrX (s.X hid) G G3:=((FrX.hp p2).trans (FrX.hp m2)).trans (FrX.hp c2)
  have l0:G.ld hid 0=some (.int .i64 s.c.G):=by rw [h.ld];rfl
  have l1:G.ld hid 1=some (.int .i64 s.c.N):=by rw [h.ld];rfl
  have l2:G.ld hid 2=some (.int .i64 s.c.M):=by rw [h.ld];rfl
  have l3:G.ld hid 3=some (.int .i64 s.c.L):=by rw [h.ld];rfl
  have l4:G.ld hid 4=some (.int .i64 s.c.Pg):=by rw [h.ld];rfl
  have l5:G.ld hid 5=some (.int .i64 s.c.P):=by rw [h.ld];rfl
  have l6:G.ld hid 6=some (.int .i64 s.c.H):=by rw [h.ld];rfl
  have l7:G.ld hid 7=some (.int .i64 s.c.Sd):=by rw [h.ld];rfl
  have l8:G.ld hid 8=some (.int .i64 (Gg:Int)):=by rw [h.ld,← eGc];rfl
  have l9:G.ld hid 9=some (.sl 2 s.tid 0 s.C):=by rw [h.ld];rfl
  have l10:G.ld hid 10=some (.sl 2 s.sid 0 s.ms.length):=by rw [h.ld];rfl
  have k4:G1.ld hid 4=some (.int .i64 s.c.Pg):=by rw [h1.ld];rfl
  have k5:G1.ld hid 5=some (.int .i64 s.c.P):=by rw [h1.ld];rfl
  have k16:G1.ld hid 16=some (.sl 1 s.oni 0 s.on.length):=by rw [h1.ld];rfl
  have j5:G2.ld hid 5=some (.int .i64 s.c.P):=by rw [h2.ld];rfl
  have j16:G2.ld hid 16=some (.sl 1 s.oni 0 s.on.length):=by rw [h2.ld];rfl
  rw [cfC] at cl
  rw [hmet] at m1
  have start:CW F48.id [.c (.ptr hid 0),.c (.int .i64 ch),.c (.int .i64 asked)] G=bif (!okb) then some ([.c (.int .i64 0),.c (.int .i64 6)],G3) else
      F48.L47 machW CW hid 0 ch asked (A:Int) oid 0 on'.length fid 0 fr.length (fr.length:Int) 0 (Gg:Int) tid 0 s.C sid 0 (s.ms.length+1) G3:=by
    rw [F48.cw]
    unfold F48.f
    rw [guardK_of (nb0 h.h0)]
    simp only [Nat.zero_add,Nat.add_zero,Nat.reduceAdd,l0,l1,l2,l3,l4,l5,l6,l7,Qs]
    rw [cl]
    simp only [Qs]
    rw [guardK_of (nb0 h.h0)]
    simp only [l8,l9,l10,Qs]
    rw [p1]
    simp only [Qs,List.length_cons,List.length_nil,if_true,Nat.zero_add,Nat.reduceAdd]
    rw [guardK_of (nb0 h.h0),k4]
    simp only [Qs]
    rw [pp]
    simp only [Qs]
    rw [guardK_of (nb0 h.h0),k16]
    simp only [Qs]
    rw [guardK_of (nb0 h.h0),k5]
    simp only [Qs]
    rw [m1]
    simp only [j16,j5,Qs]
    rw [guardD_of trivial,guardD_of trivial,c1]
    simp only [Qs]
  rw [start]
  cases okb with
  | false =>
    left
    rw [if_neg (by decide)] at c3
    exact ⟨c3,G3,rfl,h3,f3⟩
  | true =>
    right
    rw [if_pos rfl] at c3
    refine ⟨on',fr,c3,?_⟩
    obtain ⟨hx,hfrs⟩:=commitP_sm c3
    have sf:Sx (s.X hid) G3 eI fid 0 fr:=c2.sx (by simp) h2.ids
    have so3:Sx (s.X hid) G3 eB oid 0 on':=c2.sx (by simp) h2.ids
    have oid0:oid≠0:=by
      rintro rfl
      rcases c2.ok _ (List.mem_cons_self ..) with ⟨_,b⟩ | ⟨_,b,_⟩
      · simp only [rowE,Obj.row.injEq,and_true] at b
        have hz:on'.length=0:=by rw [cells_nil b];rfl
        have hon1:1≤s.on.length:=Nat.le_trans (Nat.le_add_left 1 _) hb
        rw [← hx,hz] at hon1
        exact absurd hon1 (by decide)
      · simp at b
    have hfm:∀ p∈fr,∃ q:Nat,p=(q:Int)∧q*pg+pg≤s.mem.length:=fun p hp=>by
      rw [hfrs] at hp
      unfold freshP at hp
      obtain ⟨j,hj,rfl⟩:=List.mem_map.1 hp
      have hj2:=List.mem_range.1 (List.mem_filter.1 hj).1
      refine ⟨j,rfl,?_⟩
      have:=Nat.mul_le_mul_right pg (show j+1≤s.on.length from hj2)
      rw [hon,Nat.add_mul,Nat.one_mul] at this
      exact this
    have hfl:fr.length≤1000000:=by rw [hfrs];have:=fresh_len s.on (pagesP s.c.Pg (A:Int) ch).1 (pagesP s.c.Pg (A:Int) ch).2 s.on.length;omega
    obtain ⟨G4,q4,h4,f4⟩:=puts_pages (u2:=ch) (u3:=asked) (u4:=(A:Int)) (a1:=oid) (a2:=0) (a3:=on'.length) (e0:=(Gg:Int)) (t1:=tid) (t2:=0) (t3:=s.C) (d1:=sid) (d2:=0) (d3:=s.ms.length+1) h3 ⟨hpg,by omega⟩ ePg f.2.2.2.2.2.2.2.1.1 hmem sf hfm hfl fr.length 0 G3 (by omega) h3 FrX.refl
    obtain ⟨G5,e5,h5,f5⟩:=h4.setOn (so3.fr f4 h3.w) oid0
    have eng5:=(((p3.keep m2).keep c2).fr f4 h3.w).fr f5 h4.w
    have z5:HSm { s with mem:=fillsP s.c fr s.mem,oni:=oid,on:=on' }:=⟨z.met,z.mets,z.pg,z.live⟩
    obtain ⟨G6,e6,h6,f6⟩:=F46.sp h5 z5 (a:=(A:Int)) (ch:=ch) (asked:=asked) (by omega) (by omega) eng5
    have il:(insM s.ms i ((A:Int),(k:Int))).length=s.ms.length+1:=by simp only [insM,List.length_append,List.length_take,List.length_cons,List.length_drop];omega
    have r12:G6.ld hid 12=some (.int .i64 (s.live+ch)):=by rw [h6.ld];rfl
    have r13:G6.ld hid 13=some (.int .i64 s.peak):=by rw [h6.ld];rfl
    have r14:G6.ld hid 14=some (.int .i64 s.mark):=by rw [h6.ld];rfl
    obtain ⟨G7,e7,h7,f7⟩:=h6.setPeak (max s.peak (s.live+ch))
    obtain ⟨G8,e8,h8,f8⟩:=h7.setMark (max s.mark ((A:Int)+ch))
    refine ⟨tid,sid,oid,G8,?_,?_,f3.trans (f4.trans (f5.trans (f6.trans (f7.trans f8))))⟩
    · have e6':CW F46.id [.c (.ptr hid 0),.agg [.int .i64 (A:Int),.int .i64 ch,.int .i64 asked],.agg [.int .i64 (Gg:Int),.sl 2 tid 0 s.C,.sl 2 sid 0 (s.ms.length+1)]] G5=some ([],G6):=by
        rw [← il,← eGc];exact e6
      rw [show ((0:Nat):Int)=0 from rfl] at q4
      rw [q_nt,q_cf,q4,F48.L47_eq,condD_neg (by omega),guardK_of (nb0 h.h0)]
      simp only [Nat.zero_add]
      rw [e5,q_bs,e6',q_bs,guardK_of (nb0 h.h0),r13]
      simp only [Qs]
      rw [guardK_of (nb0 h.h0),r12]
      simp only [Qs]
      rw [guardK_of (nb0 h.h0),r14]
      simp only [Qs]
      rw [guardK_of (nb0 h.h0),mx2_eq,e7,q_bs,guardK_of (nb0 h.h0),mx2_eq,i64w,wrap_id (by omega) (by omega),e8,q_bs]
    · exact h8
end Go.Proofs.D.S
/- What asks for a block. -/
set_option linter.unusedVariables false
set_option linter.unusedSimpArgs false
namespace Go.Proofs.D.S
open Go Go.RowKit
variable {G G' G0 G1:GH} {L R:List (Nat×Obj)}
variable {hid:Nat} {s:HS}
theorem F49.bad {ch asked e:Int} (he:e≠0):CW F49.id [.c (.ptr hid 0),.c (.int .i64 ch),.c (.int .i64 asked),.c (.int .i64 e)] G=some ([.agg [.int .i64 e,.int .i64 0,.int .i64 0,.int .u8 0,.int .i64 0,.int .i64 0,.int .i64 0,.int .i64 0]],G):=by
  rw [F49.cw]
  unfold F49.f
  rw [condN_pos he]
theorem F49.good {ch asked a e:Int} (h:CW F48.id [.c (.ptr hid 0),.c (.int .i64 ch),.c (.int .i64 asked)] G=some ([.c (.int .i64 a),.c (.int .i64 e)],G')) :
    CW F49.id [.c (.ptr hid 0),.c (.int .i64 ch),.c (.int .i64 asked),.c (.int .i64 0)] G=some ([.agg [.int .i64 e,.int .i64 a,.int .i64 0,.int .u8 0,.int .i64 0,.int .i64 0,.int .i64 0,.int .i64 0]],G'):=by
  rw [F49.cw]
  unfold F49.f
  rw [condN_neg rfl,h]
  simp only [Qs]
theorem HRaw.conf (h:HRaw G hid s):G.ld hid 0=some (.int .i64 s.c.G)∧G.ld hid 1=some (.int .i64 s.c.N)∧G.ld hid 2=some (.int .i64 s.c.M)∧G.ld hid 3=some (.int .i64 s.c.L)∧G.ld hid 4=some (.int .i64 s.c.Pg)∧G.ld hid 5=some (.int .i64 s.c.P)∧G.ld hid 6=some (.int .i64 s.c.H)∧G.ld hid 7=some (.int .i64 s.c.Sd):=by
  refine ⟨?_,?_,?_,?_,?_,?_,?_,?_⟩ <;> (rw [h.ld];rfl)
theorem F16.sp (h:HRaw G hid s) (ok:s.c.Ok) (hl:-1000000000≤s.live∧s.live≤1000000000) {sz al:Int} (ha:R64 al) {G':GH} {cs:List Cell} (hcs:cs.length=8) {e0 a1 n2 b3 l4 p5 m6 g7:Int} (ecs:cs=[.int .i64 e0,.int .i64 a1,.int .i64 n2,.int .u8 b3,.int .i64 l4,.int .i64 p5,.int .i64 m6,.int .i64 g7])
    (k:CW F49.id [.c (.ptr hid 0),.c (.int .i64 (newS s.c.G s.c.N s.c.M s.live sz al).1),.c (.int .i64 sz),.c (.int .i64 (newS s.c.G s.c.N s.c.M s.live sz al).2)] G=some ([.agg cs],G')) :
    CW F16.id [.c (.ptr hid 0),.c (.int .i64 sz),.c (.int .i64 al)] G=some ([.agg cs],G'):=by
  obtain ⟨l0,l1,l2,l3,l4',l5,l6,l7⟩:=h.conf
  have l12:G.ld hid 12=some (.int .i64 s.live):=by rw [h.ld];rfl
  have ad:=F93.sp (G:=G) ok (live:=s.live) (s:=sz) (a:=al) ha hl
  rw [cfC] at ad
  subst ecs
  rw [F16.cw]
  unfold F16.f
  rw [guardK_of (nb0 h.h0)]
  simp only [Nat.zero_add,Nat.add_zero,Nat.reduceAdd,l0,l1,l2,l3,l4',l5,l6,l7,Qs]
  rw [guardK_of (nb0 h.h0),l12]
  simp only [Qs]
  rw [ad]
  simp only [Qs]
  rw [k]
  simp only [Qs,List.length_cons,List.length_nil,if_true,Nat.zero_add,Nat.reduceAdd]
theorem HRaw.wr (h:HRaw G hid s) {a:Nat} {new:List Int} (hl:a+new.length≤s.mem.length) :
    ∃ G',G.sts s.mmi (a*1) (cells eU8 new)=some G'∧HRaw G' hid { s with mem:=s.mem.take a++new++s.mem.drop (a+new.length) }∧FrX (s.X hid) G G':=by
  have e:splice (cells eU8 s.mem) (a*1) (cells eU8 new)=cells eU8 (s.mem.take a++new++s.mem.drop (a+new.length)):=by
    unfold splice
    rw [cells_take,show a*1+(cells eU8 new).length=(a+new.length)*1 by rw [cells_len];omega,cells_drop,cells_app,cells_app]
  obtain ⟨h1,f1⟩:=h.setMem (mem':=s.mem.take a++new++s.mem.drop (a+new.length)) (by simp only [List.length_append,List.length_take,List.length_drop];omega)
  refine ⟨_,?_,h1,f1⟩
  unfold GH.sts
  rw [own_row h.mem,Option.bind_some,if_pos (by rw [cells_len,cells_len];omega),e]
theorem reps_u8 (n:Nat):reps n [.int .u8 0]=cells eU8 (List.replicate n 0):=by
  unfold reps cells
  rw [List.flatMap_def,List.map_replicate]
theorem F22.sp (h:HRaw G hid s) (ok:s.c.Ok) (hl:-1000000000≤s.live∧s.live≤1000000000) {n sz:Int} (hn:R64 n) (hs:R64 sz) {G':GH} {s':HS} (h':HRaw G' hid s') {e0 a1 n2 b3 l4 p5 m6 g7:Int}
    (k:CW F49.id [.c (.ptr hid 0),.c (.int .i64 (manyS s.c.G s.c.N s.c.M s.live n sz).1),.c (.int .i64 (productS s.c.N n sz).1),.c (.int .i64 (manyS s.c.G s.c.N s.c.M s.live n sz).2)] G=some ([.agg [.int .i64 e0,.int .i64 a1,.int .i64 n2,.int .u8 b3,.int .i64 l4,.int .i64 p5,.int .i64 m6,.int .i64 g7]],G'))
    (hz:e0=0→0≤a1∧0≤(manyS s.c.G s.c.N s.c.M s.live n sz).1∧a1+(manyS s.c.G s.c.N s.c.M s.live n sz).1≤s'.mem.length) (hmm:s'.mem.length≤65536) :
    ∃ G2,CW F22.id [.c (.ptr hid 0),.c (.int .i64 n),.c (.int .i64 sz)] G=some ([.agg [.int .i64 e0,.int .i64 a1,.int .i64 n2,.int .u8 b3,.int .i64 l4,.int .i64 p5,.int .i64 m6,.int .i64 g7]],G2) ∧
      HRaw G2 hid (if e0=0 then { s' with mem:=s'.mem.take a1.toNat++List.replicate (manyS s.c.G s.c.N s.c.M s.live n sz).1.toNat 0++s'.mem.drop (a1.toNat+(manyS s.c.G s.c.N s.c.M s.live n sz).1.toNat) } else s')∧FrX (s'.X hid) G' G2:=by
  obtain ⟨l0,l1,l2,l3,l4',l5,l6,l7⟩:=h.conf
  have l12:G.ld hid 12=some (.int .i64 s.live):=by rw [h.ld];rfl
  have ad:=F87.sp (G:=G) ok (live:=s.live) (n:=n) (s:=sz) hn hs hl
  have pr:=F60.sp (G:=G) ok hn hs
  rw [cfC] at ad pr
  have l17:G'.ld hid 17=some (.sl 1 s'.mmi 0 s'.mem.length):=by rw [h'.ld];rfl
  generalize (manyS s.c.G s.c.N s.c.M s.live n sz).1=ch at *
  have start:CW F22.id [.c (.ptr hid 0),.c (.int .i64 n),.c (.int .i64 sz)] G =
      bif decide (e0=0) then (guardK (!Nat.beq hid 0) (guardK (decide (0≤a1∧a1≤IntKind.i64.wrap (a1+ch)∧IntKind.i64.wrap (a1+ch)≤((s'.mem.length:Nat):Int))) (if Int.toNat (IntKind.i64.wrap (a1+ch))-Int.toNat a1=0 then some ([.agg [.int .i64 e0,.int .i64 a1,.int .i64 n2,.int .u8 b3,.int .i64 l4,.int .i64 p5,.int .i64 m6,.int .i64 g7]],G') else (G'.sts s'.mmi (Int.toNat a1*1) (reps (Int.toNat (IntKind.i64.wrap (a1+ch))-Int.toNat a1) [.int .u8 0])).bind fun q35=>some ([.agg [.int .i64 e0,.int .i64 a1,.int .i64 n2,.int .u8 b3,.int .i64 l4,.int .i64 p5,.int .i64 m6,.int .i64 g7]],q35)))) else some ([.agg [.int .i64 e0,.int .i64 a1,.int .i64 n2,.int .u8 b3,.int .i64 l4,.int .i64 p5,.int .i64 m6,.int .i64 g7]],G'):=by
    rw [F22.cw]
    unfold F22.f
    rw [guardK_of (nb0 h.h0)]
    simp only [Nat.zero_add,Nat.add_zero,Nat.reduceAdd,l0,l1,l2,l3,l4',l5,l6,l7,Qs]
    rw [guardK_of (nb0 h.h0),l12]
    simp only [Qs]
    rw [ad]
    simp only [Qs]
    rw [guardK_of (nb0 h.h0)]
    simp only [Nat.zero_add,Nat.add_zero,Nat.reduceAdd,l0,l1,l2,l3,l4',l5,l6,l7,Qs]
    rw [pr]
    simp only [Qs]
    rw [k]
    simp only [Qs,List.length_cons,List.length_nil,if_true,Nat.zero_add,Nat.reduceAdd,l17,F22.J11_eq]
  rw [start]
  by_cases h0:e0=0
  · obtain ⟨z1,z2,z3⟩:=hz h0
    rw [condD_pos h0,guardK_of (nb0 h.h0),i64w,wrap_id (by omega) (by omega),guardD_of (by omega),if_pos h0]
    have en:(a1+ch).toNat-a1.toNat=ch.toNat:=by omega
    rw [en]
    obtain ⟨G2,e2,h2,f2⟩:=h'.wr (a:=a1.toNat) (new:=List.replicate ch.toNat 0) (by rw [List.length_replicate];omega)
    rw [List.length_replicate] at h2
    by_cases hc:ch.toNat=0
    · rw [if_pos hc]
      refine ⟨G',rfl,?_,FrX.refl⟩
      have:s'.mem.take a1.toNat++List.replicate ch.toNat 0++s'.mem.drop (a1.toNat+ch.toNat)=s'.mem:=by
        rw [hc,List.replicate_zero,List.append_nil,Nat.add_zero,List.take_append_drop]
      rw [this];exact h'
    · rw [if_neg hc,reps_u8,e2]
      exact ⟨G2,rfl,h2,f2⟩
  · rw [condD_neg h0,if_neg h0]
    exact ⟨G',rfl,h',FrX.refl⟩
end Go.Proofs.D.S
/- A heap's calls that go to no block: Trim,Figures;its configuration. -/
set_option linter.unusedVariables false
set_option linter.unusedSimpArgs false
namespace Go.Proofs.D.S
open Go Go.RowKit
variable {G G' G0 G1:GH} {L R:List (Nat×Obj)}
variable {hid:Nat} {s:HS}
theorem nbf {n:Nat} (h:1≤n):Nat.beq n 0=false:=by cases n with | zero=>omega | succ n=>rfl
theorem F51.sp (h:HRaw G hid s):CW F51.id [.c (.ptr hid 0)] G=some ([.agg (cfC s.c)],G):=by
  obtain ⟨l0,l1,l2,l3,l4,l5,l6,l7⟩:=h.conf
  rw [F51.cw]
  unfold F51.f
  rw [nbf h.h0,q_xf,q_cf,q_nf,q_gk]
  simp only [Nat.zero_add,Nat.add_zero,Nat.reduceAdd,l0,l1,l2,l3,l4,l5,l6,l7,Qs]
theorem F69.figures (h:HRaw G hid s) (hl:s.on.length≤1000000) {p sz a n b:Int} :
    CW F69.id [.c (.ptr hid 0),.agg [.int .i64 10,.int .i64 p,.int .i64 sz,.int .i64 a,.int .i64 n,.int .u8 b]] G=some ([.agg [.int .i64 0,.int .i64 0,.int .i64 0,.int .u8 0,.int .i64 s.live,.int .i64 s.peak,.int .i64 s.mark,.int .i64 (cnt s.on:Nat)]],G):=by
  have l12:G.ld hid 12=some (.int .i64 s.live):=by rw [h.ld];rfl
  have l13:G.ld hid 13=some (.int .i64 s.peak):=by rw [h.ld];rfl
  have l14:G.ld hid 14=some (.int .i64 s.mark):=by rw [h.ld];rfl
  have l16:G.ld hid 16=some (.sl 1 s.oni 0 s.on.length):=by rw [h.ld];rfl
  have c:=F99.sp h.on.1 (by omega)
  rw [F69.cw]
  unfold F69.f
  rw [nbf h.h0,q_xf,q_cf,condD_neg (by decide),condD_neg (by decide),condD_neg (by decide),condD_neg (by decide),condD_neg (by decide),condD_neg (by decide),condD_neg (by decide),decide_eq_false (by decide),F69.J56_eq,q_cf,condD_neg (by decide),condD_pos rfl,guardK_of (nb0 h.h0)]
  simp only [Nat.zero_add,l12,Qs]
  rw [guardK_of (nb0 h.h0),l13]
  simp only [Qs]
  rw [guardK_of (nb0 h.h0),l14]
  simp only [Qs]
  rw [guardK_of (nb0 h.h0),l16]
  simp only [Qs]
  rw [c]
  simp only [l12,l13,l14,Qs]
  rw [guardD_of trivial,guardD_of trivial,guardD_of trivial]
theorem F69.trim (h:HRaw G hid s) (hl:s.on.length≤1000000) (hm:s.met.length=s.on.length) {p sz a n b:Int} :
    ∃ oni G',CW F69.id [.c (.ptr hid 0),.agg [.int .i64 9,.int .i64 p,.int .i64 sz,.int .i64 a,.int .i64 n,.int .u8 b]] G=some ([.agg [.int .i64 0,.int .i64 0,.int .i64 (goneP s.on (s.met.map fun n=>decide (n>0)) s.on.length:Nat),.int .u8 0,.int .i64 0,.int .i64 0,.int .i64 0,.int .i64 0]],G') ∧
      HRaw G' hid { s with oni:=oni,on:=trimP s.on (s.met.map fun n=>decide (n>0)) }∧FrX (s.X hid) G G':=by
  have l16:G.ld hid 16=some (.sl 1 s.oni 0 s.on.length):=by rw [h.ld];rfl
  obtain ⟨mi,G1,m1,m2,m3⟩:=F30.sp h (by omega)
  have h1:=h.keep m2
  have k16:G1.ld hid 16=some (.sl 1 s.oni 0 s.on.length):=by rw [h1.ld];rfl
  obtain ⟨oid,G2,t1,t2,t3⟩:=F77.sp h1.w h1.on0 h1.on.1 m2.sl0 (by simp [hm]) (by omega)
  have h2:=h1.keep t2
  have hlen:(trimP s.on (s.met.map fun n=>decide (n>0))).length=s.on.length:=by simp [trimP]
  obtain ⟨G3,e3,h3,f3⟩:=h2.setOn (t2.sx (List.mem_cons_self ..) h1.ids) t3
  rw [hlen] at e3
  rw [hm] at m1
  refine ⟨oid,G3,?_,h3,((FrX.hp m2).trans (FrX.hp t2)).trans f3⟩
  rw [F69.cw]
  unfold F69.f
  rw [nbf h.h0,q_xf,q_cf,condD_neg (by decide),condD_neg (by decide),condD_neg (by decide),condD_neg (by decide),condD_neg (by decide),condD_neg (by decide),condD_neg (by decide),decide_eq_false (by decide),F69.J56_eq,q_cf,condD_pos rfl,guardK_of (nb0 h.h0)]
  simp only [Nat.zero_add,l16,Qs]
  rw [m1]
  simp only [k16,Qs]
  rw [guardD_of trivial,t1]
  simp only [Qs]
  rw [guardK_of (nb0 h.h0),e3,q_bs]
end Go.Proofs.D.S
/- A heap's calls to a block: those that neither move nor free it. -/
set_option linter.unusedVariables false
set_option linter.unusedSimpArgs false
namespace Go.Proofs.D.S
open Go Go.RowKit
variable {G G' G0 G1:GH} {L R:List (Nat×Obj)}
variable {hid:Nat} {s:HS}
theorem HRaw.ents0 (h:HRaw G hid s):G.ents0 (.agg [.int .i64]) s.mid=some s.es:=by
  unfold GH.ents0
  rw [if_neg h.m0];exact h.ents
abbrev opA (k p sz a n b:Int):V1:=.agg [.int .i64 k,.int .i64 p,.int .i64 sz,.int .i64 a,.int .i64 n,.int .u8 b]
abbrev ansA (e a n b l p m g:Int):V1:=.agg [.int .i64 e,.int .i64 a,.int .i64 n,.int .u8 b,.int .i64 l,.int .i64 p,.int .i64 m,.int .i64 g]
theorem F32.none (h:HRaw G hid s) {k p sz a n b:Int} (hm:mapGet s.es (kv p)=none) :
    CW F32.id [.c (.ptr hid 0),opA k p sz a n b] G=some ([ansA 8 0 0 0 0 0 0 0],G):=by
  have l11:G.ld hid 11=some (.map s.mid):=by rw [h.ld];rfl
  rw [F32.cw]
  unfold F32.f
  rw [guardK_of (nb0 h.h0)]
  simp only [Nat.zero_add,l11,Qs]
  rw [h.ents0,q_bs,hm]
  simp only [Option.getD_none,Option.isSome_none,Qs,List.length_cons,List.length_nil,if_true,Nat.zero_add,Nat.reduceAdd]
theorem F32.usable (h:HRaw G hid s) {p sz a n b at_ ch asked:Int} (hm:mapGet s.es (kv p)=some (bv at_ ch asked)) :
    CW F32.id [.c (.ptr hid 0),opA 6 p sz a n b] G=some ([ansA 0 0 ch 0 0 0 0 0],G):=by
  have l11:G.ld hid 11=some (.map s.mid):=by rw [h.ld];rfl
  rw [F32.cw]
  unfold F32.f
  rw [guardK_of (nb0 h.h0)]
  simp only [Nat.zero_add,l11,Qs]
  rw [h.ents0,q_bs,hm]
  simp only [Option.getD_some,Option.isSome_some,Qs,List.length_cons,List.length_nil,if_true,Nat.zero_add,Nat.reduceAdd]
  rw [condD_neg (by decide),condD_neg (by decide),condD_pos trivial]
theorem F32.bound (h:HRaw G hid s) {k p sz a n b at_ ch asked:Int} (hk:k=7∨k=8) (hm:mapGet s.es (kv p)=some (bv at_ ch asked)) (hn:n<0∨n≥ch) :
    CW F32.id [.c (.ptr hid 0),opA k p sz a n b] G=some ([ansA 9 0 0 0 0 0 0 0],G):=by
  have l11:G.ld hid 11=some (.map s.mid):=by rw [h.ld];rfl
  rw [F32.cw]
  unfold F32.f
  rw [guardK_of (nb0 h.h0)]
  simp only [Nat.zero_add,l11,Qs]
  rw [h.ents0,q_bs,hm]
  simp only [Option.getD_some,Option.isSome_some,Qs,List.length_cons,List.length_nil,if_true,Nat.zero_add,Nat.reduceAdd]
  rw [condD_neg (by omega),condD_neg (by omega),condD_neg (by omega)]
  by_cases h1:n<0
  · rw [condD_pos h1,F32.J31_eq,q_ct]
  · rw [condD_neg h1,decide_eq_true (by omega),F32.J31_eq,q_ct]
theorem F32.load (h:HRaw G hid s) {p sz a b ch asked:Int} {n at_:Nat} (hm:mapGet s.es (kv p)=some (bv (at_:Int) ch asked)) (hn:(n:Int)<ch) (hi:at_+n<s.mem.length) (hl:s.mem.length≤65536) :
    CW F32.id [.c (.ptr hid 0),opA 7 p sz a (n:Int) b] G=some ([ansA 0 0 0 s.mem[at_+n] 0 0 0 0],G):=by
  have l11:G.ld hid 11=some (.map s.mid):=by rw [h.ld];rfl
  have l17:G.ld hid 17=some (.sl 1 s.mmi 0 s.mem.length):=by rw [h.ld];rfl
  have sm:Sl G eU8 s.mmi 0 s.mem:=.inr ⟨_,row_row h.mem,by omega,by rw [List.drop_zero,List.take_length]⟩
  have r:=sm.ld (at_+n) 0 hi (by omega)
  rw [Nat.zero_add,Nat.add_zero] at r
  rw [F32.cw]
  unfold F32.f
  rw [guardK_of (nb0 h.h0)]
  simp only [Nat.zero_add,l11,Qs]
  rw [h.ents0,q_bs,hm]
  simp only [Option.getD_some,Option.isSome_some,Qs,List.length_cons,List.length_nil,if_true,Nat.zero_add,Nat.reduceAdd]
  rw [condD_neg (by omega),condD_neg (by omega),condD_neg (by omega),condD_neg (by omega),decide_eq_false (by omega),F32.J31_eq,q_cf,condD_pos rfl,guardK_of (nb0 h.h0)]
  simp only [Nat.zero_add,l17,Qs]
  rw [i64w,wrap_id (by omega) (by omega),guardD_of (by omega),show ((at_:Int)+(n:Int)).toNat=at_+n by omega,r]
  simp only [eU8,List.getElem?_cons_zero,Qs]
theorem F32.store (h:HRaw G hid s) {p sz a b ch asked:Int} {n at_:Nat} (hm:mapGet s.es (kv p)=some (bv (at_:Int) ch asked)) (hn:(n:Int)<ch) (hi:at_+n<s.mem.length) (hl:s.mem.length≤65536) :
    ∃ G',CW F32.id [.c (.ptr hid 0),opA 8 p sz a (n:Int) b] G=some ([ansA 0 0 0 0 0 0 0 0],G')∧HRaw G' hid { s with mem:=s.mem.set (at_+n) b }∧FrX (s.X hid) G G':=by
  have l11:G.ld hid 11=some (.map s.mid):=by rw [h.ld];rfl
  have l17:G.ld hid 17=some (.sl 1 s.mmi 0 s.mem.length):=by rw [h.ld];rfl
  obtain ⟨G',e,h2,f2⟩:=h.wr (a:=at_+n) (new:=[b]) (by simp;omega)
  refine ⟨G',?_,?_,f2⟩
  · rw [F32.cw]
    unfold F32.f
    rw [guardK_of (nb0 h.h0)]
    simp only [Nat.zero_add,l11,Qs]
    rw [h.ents0,q_bs,hm]
    simp only [Option.getD_some,Option.isSome_some,Qs,List.length_cons,List.length_nil,if_true,Nat.zero_add,Nat.reduceAdd]
    rw [condD_neg (by omega),condD_neg (by omega),condD_neg (by omega),condD_neg (by omega),decide_eq_false (by omega),F32.J31_eq,q_cf,condD_neg (by omega),guardK_of (nb0 h.h0)]
    simp only [Nat.zero_add,l17,Qs]
    rw [i64w,wrap_id (by omega) (by omega),guardD_of (by omega),show ((at_:Int)+(n:Int)).toNat=at_+n by omega]
    rw [show [Cell.int .u8 b]=cells eU8 [b] by simp [cells,eU8],e,q_bs]
  · rw [show s.mem.set (at_+n) b=s.mem.take (at_+n)++[b]++s.mem.drop (at_+n + [b].length) by
      rw [List.set_eq_take_append_cons_drop,if_pos hi];simp]
    exact h2
theorem F32.free (h:HRaw G hid s) {p sz a n b at_ ch asked:Int} (hm:mapGet s.es (kv p)=some (bv at_ ch asked)) (k:CW F50.id [.c (.ptr hid 0),bv at_ ch asked] G=some ([],G')) :
    CW F32.id [.c (.ptr hid 0),opA 5 p sz a n b] G=some ([ansA 0 0 0 0 0 0 0 0],G'):=by
  have l11:G.ld hid 11=some (.map s.mid):=by rw [h.ld];rfl
  rw [F32.cw]
  unfold F32.f
  rw [guardK_of (nb0 h.h0)]
  simp only [Nat.zero_add,l11,Qs]
  rw [h.ents0,q_bs,hm]
  simp only [Option.getD_some,Option.isSome_some,Qs,List.length_cons,List.length_nil,if_true,Nat.zero_add,Nat.reduceAdd]
  rw [condD_neg (by decide),condD_pos trivial,k,q_bs]
theorem F32.realloc (h:HRaw G hid s) {p sz a n b at_ ch asked:Int} (hm:mapGet s.es (kv p)=some (bv at_ ch asked)) {e0 a1 n2 b3 l4 p5 m6 g7:Int} (k:CW F17.id [.c (.ptr hid 0),bv at_ ch asked,.c (.int .i64 sz)] G=some ([ansA e0 a1 n2 b3 l4 p5 m6 g7],G')) :
    CW F32.id [.c (.ptr hid 0),opA 4 p sz a n b] G=some ([ansA e0 a1 n2 b3 l4 p5 m6 g7],G'):=by
  have l11:G.ld hid 11=some (.map s.mid):=by rw [h.ld];rfl
  rw [F32.cw]
  unfold F32.f
  rw [guardK_of (nb0 h.h0)]
  simp only [Nat.zero_add,l11,Qs]
  rw [h.ents0,q_bs,hm]
  simp only [Option.getD_some,Option.isSome_some,Qs,List.length_cons,List.length_nil,if_true,Nat.zero_add,Nat.reduceAdd]
  rw [condD_pos trivial,k,q_bs]
  simp only [Qs,List.length_cons,List.length_nil,if_true,Nat.zero_add,Nat.reduceAdd]
end Go.Proofs.D.S
/- Blocks that lie apart. -/
set_option linter.unusedVariables false
namespace Go.Proofs.D.S
open Go Go.RowKit
def Srt (l:List Blk):Prop:=l.Pairwise fun a b=>a.at_+a.ch≤b.at_
theorem putB_perm (b:Blk):∀ l:List Blk,(putB l b).Perm (b::l)
  | []=>.refl _
  | x::l=>by
    unfold putB
    split
    · exact .refl _
    · exact ((putB_perm b l).cons x).trans (.swap _ _ _)
theorem over_false {a n b m:Int} (h:over a n b m=false):b+m≤a∨a+n≤b:=by
  unfold over at h
  by_cases h1:a<b+m
  · right
    rw [decide_eq_true h1,Bool.true_and] at h
    have:=of_decide_eq_false h
    omega
  · left;omega
theorem freeB_apart {l:List Blk} {a n:Int} (h:freeB l a n=true):∀ b∈l,b.at_+b.ch≤a∨a+n≤b.at_:=by
  intro b hb
  have:=List.all_eq_true.1 h b hb
  simp only [Bool.not_eq_true'] at this
  exact over_false this
theorem srt_put {a n asked:Int} (hn:1≤n):∀ {l:List Blk},Srt l→(∀ b∈l,1≤b.ch)→freeB l a n=true→Srt (putB l ⟨a,n,asked⟩)
  | [],_,_,_=>by unfold putB Srt;simp
  | x::l,s,hc,f=>by
    obtain ⟨s1,s2⟩:=List.pairwise_cons.1 s
    have hx:=freeB_apart f x (by simp)
    have cx:=hc x (by simp)
    unfold putB
    by_cases h:x.at_>a
    · rw [if_pos h]
      refine List.pairwise_cons.2 ⟨fun b hb=>?_,s⟩
      dsimp only
      rcases List.mem_cons.1 hb with rfl | hb
      · omega
      · have:=s1 b hb;omega
    · rw [if_neg h]
      have f2:freeB l a n=true:=by
        unfold freeB at f ⊢
        rw [List.all_cons,Bool.and_eq_true] at f
        exact f.2
      have h2:x.at_+x.ch≤a:=by omega
      refine List.pairwise_cons.2 ⟨fun b hb=>?_,srt_put hn s2 (fun b hb=>hc b (by simp [hb])) f2⟩
      rcases (putB_mem _ _ _).1 hb with rfl | hb
      · exact h2
      · exact s1 b hb
theorem Srt.put {a n asked:Int} {l:List Blk} (s:Srt l) (hn:1≤n) (h:∀ b∈l,1≤b.ch) (f:freeB l a n=true):Srt (putB l ⟨a,n,asked⟩):=srt_put hn s h f
theorem Srt.rest {l:List Blk} (s:Srt l) (A:Nat):Srt (l.take A++l.drop (A+1)):=by
  have e:(l.take A++l.drop (A+1)).Sublist l:=by
    have h2:(l.drop (A+1)).Sublist (l.drop A):=by
      rw [← List.drop_drop];exact List.drop_sublist _ _
    have h:=(List.Sublist.refl (l.take A)).append h2
    rwa [List.take_append_drop] at h
  exact s.sublist e
theorem rest_perm {l:List Blk} {A:Nat} (h:A<l.length):l.Perm (l[A]::(l.take A++l.drop (A+1))):=by
  have e:l=l.take A++l[A]::l.drop (A+1):=by rw [← List.drop_eq_getElem_cons h,List.take_append_drop]
  have p:(l.take A++l[A]::l.drop (A+1)).Perm (l[A]::(l.take A++l.drop (A+1))):=List.perm_middle
  rw [← e] at p
  exact p
theorem sum_perm {a b:List Int} (p:a.Perm b):a.sum=b.sum:=by
  induction p with
  | nil=>rfl
  | cons x _ ih=>rw [List.sum_cons,List.sum_cons,ih]
  | swap x y l=>simp only [List.sum_cons];omega
  | trans _ _ h1 h2=>exact h1.trans h2
theorem chSum_perm {a b:List Blk} (p:a.Perm b):chSum a=chSum b:=by
  unfold chSum;exact sum_perm (p.map Blk.ch)
theorem findB_mem:∀ {l:List Blk} {b:Blk},Srt l→(∀ b∈l,1≤b.ch)→b∈l→∃ A,∃ h:A<l.length,findB l b.at_=some A∧l[A]=b
  | [],b,_,_,h=>by cases h
  | x::l,b,s,hc,h=>by
    obtain ⟨s1,s2⟩:=List.pairwise_cons.1 s
    rcases List.mem_cons.1 h with rfl | h
    · exact ⟨0,by simp,by unfold findB;rw [if_pos rfl],rfl⟩
    · obtain ⟨A,hA,e1,e2⟩:=findB_mem s2 (fun y hy=>hc y (by simp [hy])) h
      have c1:=s1 b h
      have c2:=hc x (by simp)
      exact ⟨A+1,by simpa using hA,by unfold findB;rw [if_neg (by omega),e1];rfl,by simpa using e2⟩
end Go.Proofs.D.S
/- Blocks below their ceilings: what the model places lies there. -/
set_option linter.unusedVariables false
namespace Go.Proofs.D.S
open Go Go.RowKit
theorem Bin.in {c:Cf} {g l u:Nat} (tp:c.Tp g l u) {b:Blk} (h:Bin g l u b):inC c g l b=true:=by
  obtain ⟨k,a,hk,hch,hat,ha⟩:=h
  unfold inC
  rw [hch,shiftS_pow hk]
  have e:=tp.ceil hk
  have h1:(a+1)*2 ^ (g+k)≤tP l u k*(2+k)*2 ^ (g+k):=Nat.mul_le_mul_right _ ha
  rw [Nat.succ_mul] at h1
  have h2:¬ b.at_>c.ceil (k:Int)-((2 ^ (g+k):Nat):Int):=by rw [e,hat];omega
  rw [decide_eq_false h2];rfl
theorem Bin.ok {c:Cf} {g l u:Nat} (tp:c.Tp g l u) {b:Blk} (h:Bin g l u b):0≤b.at_∧b.at_≤65536∧1≤b.ch∧b.ch≤65536:=by
  obtain ⟨k,a,hk,hch,hat,ha⟩:=h
  have z:=Nat.two_pow_pos (g+k)
  have hs:=tp.small hk
  have h1:(a+1)*2 ^ (g+k)≤tP l u k*(2+k)*2 ^ (g+k):=Nat.mul_le_mul_right _ ha
  rw [Nat.succ_mul] at h1
  rw [hch,hat];omega
theorem Bin.all {c:Cf} {g l u:Nat} (tp:c.Tp g l u) {bl:List Blk} (h:∀ b∈bl,Bin g l u b):bl.all (inC c g l)=true∧BlkOk bl:=by
  refine ⟨List.all_eq_true.2 fun b hb=>(h b hb).in tp,fun b hb=>?_⟩
  have:=(h b hb).ok tp
  omega
theorem chargeS_ne7 (G N s a:Int):(chargeS G N s a).2≠7:=by
  unfold chargeS
  by_cases h1:(logS a).2=false∨a>N
  · rw [if_pos h1];show (3:Int)≠7;decide
  · rw [if_neg h1]
    by_cases h2:s<0∨s>N
    · rw [if_pos h2];show (4:Int)≠7;decide
    · rw [if_neg h2];show (0:Int)≠7;decide
theorem newS_ne7 (G N M live s a:Int):(newS G N M live s a).2≠7:=by
  unfold newS
  by_cases h:(chargeS G N s a).2=0
  · rw [if_pos h]
    by_cases h2:live+(chargeS G N s a).1>M
    · rw [if_pos h2];show (5:Int)≠7;decide
    · rw [if_neg h2];show (0:Int)≠7;decide
  · rw [if_neg h];exact chargeS_ne7 _ _ _ _
theorem manyS_ne7 (G N M live n s:Int):(manyS G N M live n s).2≠7:=by
  unfold manyS
  by_cases h:(productS N n s).2=0
  · rw [if_pos h];exact newS_ne7 _ _ _ _ _ _
  · rw [if_neg h]
    unfold productS
    by_cases h1:n<0∨s<0
    · rw [if_pos h1];show (2:Int)≠7;decide
    · rw [if_neg h1]
      by_cases h2:n*s>N
      · rw [if_pos h2];show (4:Int)≠7;decide
      · rw [if_neg h2];show (0:Int)≠7;decide
theorem findB_put {n a asked:Int} (hn:1≤n):∀ (l:List Blk),(∀ b∈l,1≤b.ch)→freeB l a n=true→∃ (i:Nat) (b:Blk),findB (putB l ⟨a,n,asked⟩) a=some i∧(putB l ⟨a,n,asked⟩)[i]? = some b∧b.ch=n
  | [],_,_=>⟨0,⟨a,n,asked⟩,by simp [putB,findB],rfl,rfl⟩
  | x::l,h,f=>by
    unfold freeB at f
    rw [List.all_cons,Bool.and_eq_true] at f
    have hx:=h x (by simp)
    have ne:x.at_≠a:=by
      intro e
      have:=f.1
      unfold over at this
      rw [e,decide_eq_true (show a<a+x.ch by omega),decide_eq_true (show a<a+n by omega)] at this
      exact absurd this (by decide)
    by_cases hg:x.at_>a
    · have e:putB (x::l) ⟨a,n,asked⟩ = ⟨a,n,asked⟩::x::l:=by simp only [putB,if_pos hg]
      rw [e]
      exact ⟨0,⟨a,n,asked⟩,by simp [findB],rfl,rfl⟩
    · have e:putB (x::l) ⟨a,n,asked⟩ = x::putB l ⟨a,n,asked⟩:=by simp only [putB,if_neg hg]
      rw [e]
      obtain ⟨i,b,h1,h2,h3⟩:=findB_put (asked:=asked) hn l (fun b hb=>h b (by simp [hb])) f.2
      refine ⟨i+1,b,?_,by simpa using h2,h3⟩
      unfold findB
      rw [if_neg ne,h1];rfl
variable {g l u:Nat}
theorem placeM_bin {m:Mod} (tp:m.c.Tp g l u) (ok:m.Ok) {bl:List Blk} (hin:BlkIn m.c.H bl) (hb:∀ b∈bl,Bin g l u b) {k:Nat} (hk:k≤l) (hs:chSum bl+((2 ^ (g+k):Nat):Int)≤m.c.M) (asked:Int) :
    (placeM m bl ((2 ^ (g+k):Nat):Int) asked).2.2≠7∧((placeM m bl ((2 ^ (g+k):Nat):Int) asked).2.2=0 →
      (∀ b∈(placeM m bl ((2 ^ (g+k):Nat):Int) asked).1.bl,Bin g l u b)∧∃ (j i:Nat) (b:Blk),(placeM m bl ((2 ^ (g+k):Nat):Int) asked).2.1=((j*2 ^ (g+k):Nat):Int)∧(((j+1)*2 ^ (g+k):Nat):Int)≤m.c.H∧((leastN g k (tP l u k) j:Nat):Int)≤chSum bl ∧
        findB (placeM m bl ((2 ^ (g+k):Nat):Int) asked).1.bl (placeM m bl ((2 ^ (g+k):Nat):Int) asked).2.1=some i∧(placeM m bl ((2 ^ (g+k):Nat):Int) asked).1.bl[i]? = some b∧b.ch=((2 ^ (g+k):Nat):Int)):=by
  have z:=Nat.two_pow_pos (g+k)
  have f:=ok.c.facts
  obtain ⟨j,hj1,hj2,hj3⟩:=room tp hk hb hs
  have hfree:=(lowJ_some (by omega) (by omega)).1 hj1
  rcases placeM_cases m bl (n:=((2 ^ (g+k):Nat):Int)) (asked:=asked) (by omega) (by omega) with ⟨e,_⟩ | e | ⟨j',on',fr,h1,h2,h3,h4,_,_,e⟩
  · unfold lowR at e;rw [hj1] at e;cases e
  · rw [e];exact ⟨by dsimp only;decide,fun h=>absurd h (by dsimp only;decide)⟩
  · rw [hj1] at h1
    cases h1
    rw [e]
    refine ⟨by dsimp only;decide,fun _=>⟨?_,?_⟩⟩
    · intro b hbm
      rcases (putB_mem _ _ _).1 hbm with rfl | hbm
      · exact Bin.new hk hj2 asked
      · exact hb b hbm
    · obtain ⟨i,b,q1,q2,q3⟩:=findB_put (asked:=asked) (show 1≤((2 ^ (g+k):Nat):Int) by omega) bl (fun b hb=>(hin b hb).2.1) h4
      refine ⟨j,i,b,by dsimp only;rw [Int.natCast_mul],?_,hj3,q1,q2,q3⟩
      rw [← Int.natCast_mul] at h3
      rw [Nat.succ_mul,Int.natCast_add]
      exact h3
def GoodStep (g l u:Nat) (m:Mod) (o:OpV) (r:Mod×AnsV):Prop :=
  r.2.err≠7∧(∀ b∈r.1.bl,Bin g l u b)∧((o.k=1∨o.k=2∨o.k=3)→r.2.err=0→∃ (k j i:Nat) (b:Blk),k≤l∧r.2.at_=((j*2 ^ (g+k):Nat):Int)∧(((j+1)*2 ^ (g+k):Nat):Int)≤m.c.H∧((leastN g k (tP l u k) j:Nat):Int)≤chSum m.bl ∧
    findB r.1.bl r.2.at_=some i∧r.1.bl[i]? = some b∧b.ch=((2 ^ (g+k):Nat):Int))
theorem giveM_good {m:Mod} (tp:m.c.Tp g l u) (ok:m.Ok) (hb:∀ b∈m.bl,Bin g l u b) (o:OpV) (ho:o.k=1∨o.k=2∨o.k=3):GoodStep g l u m o (giveM m o):=by
  unfold giveM
  dsimp only
  have hr:∀ r:Int×Int,r.2≠7→((r.2≠0∧r.1=0)∨(r.2=0∧m.live+r.1≤m.c.M∧∃ k:Nat,k≤l∧r.1=((2 ^ (g+k):Nat):Int))) →
      ∀ s:Int,GoodStep g l u m o (if r.2=0 then (if (placeM m m.bl r.1 s).2.2=0 then ((if o.k=2 then { (placeM m m.bl r.1 s).1 with mem:=zeroP (placeM m m.bl r.1 s).1.mem (placeM m m.bl r.1 s).2.1 r.1 } else (placeM m m.bl r.1 s).1),(⟨0,(placeM m m.bl r.1 s).2.1,0,0,0,0,0,0⟩:AnsV)) else (m,errA (placeM m m.bl r.1 s).2.2)) else (m,errA r.2)):=by
    intro r h7 hr s
    rcases hr with ⟨h,_⟩ | ⟨h,hM,k,hk,he⟩
    · rw [if_neg h];exact ⟨h7,hb,fun _ h0=>absurd h0 h⟩
    · rw [if_pos h,he]
      rw [ok.live,he] at hM
      obtain ⟨p7,pz⟩:=placeM_bin tp ok ok.bl hb hk hM s
      by_cases hq:(placeM m m.bl ((2 ^ (g+k):Nat):Int) s).2.2=0
      · rw [if_pos hq]
        obtain ⟨b1,j,i,b,q1,q2,q3,q4,q5,q6⟩:=pz hq
        have eb:(if o.k=2 then { (placeM m m.bl ((2 ^ (g+k):Nat):Int) s).1 with mem:=zeroP (placeM m m.bl ((2 ^ (g+k):Nat):Int) s).1.mem (placeM m m.bl ((2 ^ (g+k):Nat):Int) s).2.1 ((2 ^ (g+k):Nat):Int) } else (placeM m m.bl ((2 ^ (g+k):Nat):Int) s).1:Mod).bl=(placeM m m.bl ((2 ^ (g+k):Nat):Int) s).1.bl:=by split <;> rfl
        refine ⟨by show (0:Int)≠7;decide,?_,fun _ _=>⟨k,j,i,b,hk,q1,q2,q3,?_,?_,q6⟩⟩
        · dsimp only;rw [eb];exact b1
        · dsimp only;rw [eb];exact q4
        · dsimp only;rw [eb];exact q5
      · rw [if_neg hq];exact ⟨p7,hb,fun _ h0=>absurd h0 hq⟩
  refine hr _ ?_ ?_ _
  · by_cases h2:o.k=2
    · rw [if_pos h2];exact manyS_ne7 _ _ _ _ _ _
    · rw [if_neg h2];exact newS_ne7 _ _ _ _ _ _
  · by_cases h2:o.k=2
    · rw [if_pos h2];exact charge_many tp.ex _ _ _
    · rw [if_neg h2];exact charge_new tp.ex _ _ _
theorem ofM_good {m:Mod} (tp:m.c.Tp g l u) (ok:m.Ok) (hb:∀ b∈m.bl,Bin g l u b) (o:OpV) (ho:¬ (o.k=1∨o.k=2∨o.k=3)) {A:Nat} (hA:A<m.bl.length):GoodStep g l u m o (ofM m o A m.bl[A]):=by
  have hrest:=chSum_rest hA
  have hbr:∀ b∈m.bl.take A++m.bl.drop (A+1),Bin g l u b:=by
    intro b h
    rcases List.mem_append.1 h with h | h
    · exact hb b (List.mem_of_mem_take h)
    · exact hb b (List.mem_of_mem_drop h)
  have z0:(0:Int)≠7:=by decide
  unfold ofM
  dsimp only
  by_cases h4:o.k=4
  · rw [if_pos h4]
    rcases charge_new tp.ex (m.live-m.bl[A].ch) o.s 1 with ⟨h,_⟩ | ⟨h,hM,k,hk,he⟩
    · rw [if_neg h];exact ⟨newS_ne7 _ _ _ _ _ _,hb,fun h=>absurd h ho⟩
    · rw [if_pos h,he]
      have hl:=ok.live
      rw [he] at hM
      obtain ⟨p7,pz⟩:=placeM_bin tp ok (ok.bl.rest A) hbr hk (by omega) o.s
      by_cases hq:(placeM m (m.bl.take A++m.bl.drop (A+1)) ((2 ^ (g+k):Nat):Int) o.s).2.2=0
      · rw [if_pos hq];exact ⟨z0,(pz hq).1,fun h=>absurd h ho⟩
      · rw [if_neg hq];exact ⟨p7,hb,fun h=>absurd h ho⟩
  · rw [if_neg h4]
    by_cases h5:o.k=5
    · rw [if_pos h5];exact ⟨z0,hbr,fun h=>absurd h ho⟩
    · rw [if_neg h5]
      split
      · exact ⟨z0,hb,fun h=>absurd h ho⟩
      · split
        · exact ⟨by show (9:Int)≠7;decide,hb,fun h=>absurd h ho⟩
        · split
          · exact ⟨z0,hb,fun h=>absurd h ho⟩
          · exact ⟨z0,hb,fun h=>absurd h ho⟩
theorem doM_good {m:Mod} (tp:m.c.Tp g l u) (ok:m.Ok) (hb:∀ b∈m.bl,Bin g l u b) (o:OpV):GoodStep g l u m o (doM m o):=by
  have z0:(0:Int)≠7:=by decide
  unfold doM
  by_cases ho:o.k=1∨o.k=2∨o.k=3
  · rw [if_pos ho];exact giveM_good tp ok hb o ho
  · rw [if_neg ho]
    split
    · exact ⟨z0,hb,fun h=>absurd h ho⟩
    · split
      · exact ⟨z0,hb,fun h=>absurd h ho⟩
      · split
        · cases h:findB m.bl o.p with
          | none=>exact ⟨by show (8:Int)≠7;decide,hb,fun h=>absurd h ho⟩
          | some A =>
            obtain ⟨hA,_⟩:=findB_lt h
            dsimp only
            rw [getD_lt _ hA]
            exact ofM_good tp ok hb o ho hA
        · exact ⟨by show (2:Int)≠7;decide,hb,fun h=>absurd h ho⟩
end Go.Proofs.D.S
/- Maps as rows of pairs. -/
set_option linter.unusedVariables false
namespace Go.Proofs.D.S
open Go
section
variable {κ β:Type}
def NoDup (l:List (κ×β)):Prop:=l.Pairwise fun a b=>a.1≠b.1
theorem NoDup.perm {l l':List (κ×β)} (d:NoDup l) (p:l.Perm l'):NoDup l':=(p.pairwise_iff (R:=fun a b:κ×β=>a.1≠b.1) (fun {a b} h=>Ne.symm h)).1 d
end
section
variable {κ β:Type} [DecidableEq κ]
def aGet:List (κ×β)→κ→Option β
  | [],_=>none
  | (a,b)::l,k=>if a=k then some b else aGet l k
def aPut:List (κ×β)→κ→β→List (κ×β)
  | [],k,x=>[(k,x)]
  | (a,b)::l,k,x=>if a=k then (k,x)::l else (a,b)::aPut l k x
def aDel:List (κ×β)→κ→List (κ×β)
  | [],_=>[]
  | (a,b)::l,k=>if a=k then l else (a,b)::aDel l k
def encM (ek:κ→V1) (ev:β→V1) (l:List (κ×β)):List (V1×V1):=l.map fun x=>(ek x.1,ev x.2)
variable {ek:κ→V1} {ev:β→V1}
theorem mapGet_enc (hk:∀ a b,ek a=ek b→a=b) (k:κ):∀ l:List (κ×β),mapGet (encM ek ev l) (ek k)=(aGet l k).map ev
  | []=>rfl
  | (a,b)::l=>by
    show (if ek a=ek k then some (ev b) else mapGet (encM ek ev l) (ek k))=(if a=k then some b else aGet l k).map ev
    by_cases h:a=k
    · rw [if_pos (by rw [h]),if_pos h];rfl
    · rw [if_neg (fun e=>h (hk _ _ e)),if_neg h,mapGet_enc hk k l]
theorem mapPut_enc (hk:∀ a b,ek a=ek b→a=b) (k:κ) (x:β):∀ l:List (κ×β),mapPut (encM ek ev l) (ek k) (ev x)=encM ek ev (aPut l k x)
  | []=>rfl
  | (a,b)::l=>by
    show (if ek a=ek k then (ek k,ev x)::encM ek ev l else (ek a,ev b)::mapPut (encM ek ev l) (ek k) (ev x))=encM ek ev (if a=k then (k,x)::l else (a,b)::aPut l k x)
    by_cases h:a=k
    · rw [if_pos (by rw [h]),if_pos h];rfl
    · rw [if_neg (fun e=>h (hk _ _ e)),if_neg h,mapPut_enc hk k x l];rfl
theorem mapDel_enc (hk:∀ a b,ek a=ek b→a=b) (k:κ):∀ l:List (κ×β),mapDel (encM ek ev l) (ek k)=encM ek ev (aDel l k)
  | []=>rfl
  | (a,b)::l=>by
    show (if ek a=ek k then encM ek ev l else (ek a,ev b)::mapDel (encM ek ev l) (ek k))=encM ek ev (if a=k then l else (a,b)::aDel l k)
    by_cases h:a=k
    · rw [if_pos (by rw [h]),if_pos h]
    · rw [if_neg (fun e=>h (hk _ _ e)),if_neg h,mapDel_enc hk k l];rfl
theorem aGet_mem {k:κ} {x:β}:∀ {l:List (κ×β)},aGet l k=some x→(k,x)∈l
  | [],h=>by cases h
  | (a,b)::l,h=>by
    unfold aGet at h
    by_cases e:a=k
    · rw [if_pos e] at h;cases h;subst e;simp
    · rw [if_neg e] at h;exact List.mem_cons_of_mem _ (aGet_mem h)
theorem aGet_of {k:κ} {x:β}:∀ {l:List (κ×β)},NoDup l→(k,x)∈l→aGet l k=some x
  | [],_,h=>by cases h
  | (a,b)::l,d,h=>by
    obtain ⟨d1,d2⟩:=List.pairwise_cons.1 d
    unfold aGet
    rcases List.mem_cons.1 h with e | h
    · cases e;rw [if_pos rfl]
    · rw [if_neg (d1 _ h)];exact aGet_of d2 h
theorem aGet_none {k:κ}:∀ {l:List (κ×β)},aGet l k=none↔∀ x∈l,x.1≠k
  | []=>by simp [aGet]
  | (a,b)::l=>by
    unfold aGet
    by_cases e:a=k
    · rw [if_pos e];simp [e]
    · rw [if_neg e,aGet_none];simp [e]
theorem aPut_new {k:κ} {x:β}:∀ {l:List (κ×β)},aGet l k=none→aPut l k x=l++[(k,x)]
  | [],_=>rfl
  | (a,b)::l,h=>by
    unfold aGet at h
    by_cases e:a=k
    · rw [if_pos e] at h;cases h
    · rw [if_neg e] at h
      unfold aPut
      rw [if_neg e,aPut_new h];rfl
theorem aDel_perm {k:κ} {x:β}:∀ {l:List (κ×β)},aGet l k=some x→l.Perm ((k,x)::aDel l k)
  | [],h=>by cases h
  | (a,b)::l,h=>by
    unfold aGet at h
    unfold aDel
    by_cases e:a=k
    · rw [if_pos e] at h;cases h;subst e;rw [if_pos rfl]
    · rw [if_neg e] at h
      rw [if_neg e]
      exact ((aDel_perm h).cons (a,b)).trans (.swap _ _ _)
theorem aDel_none {k:κ}:∀ {l:List (κ×β)},aGet l k=none→aDel l k=l
  | [],_=>rfl
  | (a,b)::l,h=>by
    unfold aGet at h
    by_cases e:a=k
    · rw [if_pos e] at h;cases h
    · rw [if_neg e] at h
      unfold aDel
      rw [if_neg e,aDel_none h]
theorem NoDup.del {l:List (κ×β)} (d:NoDup l) (k:κ):NoDup (aDel l k):=by
  cases h:aGet l k with
  | none=>rw [aDel_none h];exact d
  | some x=>exact (List.pairwise_cons.1 (d.perm (aDel_perm h))).2
theorem aDel_ne {l:List (κ×β)} (d:NoDup l) {k:κ} {y:κ×β} (h:y∈aDel l k):y.1≠k∧y∈l:=by
  cases e:aGet l k with
  | none=>rw [aDel_none e] at h;exact ⟨aGet_none.1 e y h,h⟩
  | some x =>
    have p:=aDel_perm e
    obtain ⟨d1,_⟩:=List.pairwise_cons.1 (d.perm p)
    exact ⟨fun e2=>d1 _ h e2.symm,p.mem_iff.2 (List.mem_cons_of_mem _ h)⟩
theorem aGet_del {l:List (κ×β)} (d:NoDup l) (k k':κ):aGet (aDel l k) k' = if k' = k then none else aGet l k':=by
  by_cases h:k' = k
  · rw [if_pos h,h];exact aGet_none.2 fun y hy=>(aDel_ne d hy).1
  · rw [if_neg h]
    cases e:aGet l k' with
    | none=>exact aGet_none.2 fun y hy=>aGet_none.1 e y (aDel_ne d hy).2
    | some x =>
      refine aGet_of (d.del k) ?_
      have hm:=aGet_mem e
      cases e2:aGet l k with
      | none=>rw [aDel_none e2];exact hm
      | some z =>
        rcases List.mem_cons.1 ((aDel_perm e2).mem_iff.1 hm) with e3 | e3
        · cases e3;exact absurd rfl h
        · exact e3
theorem aGet_put (k:κ) (x:β) (k':κ):∀ l:List (κ×β),aGet (aPut l k x) k' = if k' = k then some x else aGet l k'
  | []=>by
    unfold aPut aGet
    by_cases h:k=k'
    · rw [if_pos h,if_pos h.symm]
    · rw [if_neg h,if_neg (fun e=>h e.symm)];rfl
  | (a,b)::l=>by
    unfold aPut
    by_cases h:a=k
    · rw [if_pos h]
      unfold aGet
      by_cases h2:k=k'
      · rw [if_pos h2,if_pos h2.symm]
      · rw [if_neg h2,if_neg (fun e=>h2 e.symm),if_neg (fun e=>h2 (h.symm.trans e))]
    · rw [if_neg h]
      unfold aGet
      by_cases h2:a=k'
      · rw [if_pos h2,if_neg (fun e=>h (h2.trans e)),if_pos h2]
      · rw [if_neg h2,aGet_put k x k' l,if_neg h2]
theorem noDup_put {k:κ} {x:β}:∀ {l:List (κ×β)},NoDup l→NoDup (aPut l k x)
  | [],_=>by unfold aPut;exact List.pairwise_cons.2 ⟨by simp,List.Pairwise.nil⟩
  | (a,b)::l,d=>by
    obtain ⟨d1,d2⟩:=List.pairwise_cons.1 d
    unfold aPut
    by_cases h:a=k
    · rw [if_pos h];exact List.pairwise_cons.2 ⟨fun y hy=>by have:=d1 y hy;rw [h] at this;exact this,d2⟩
    · rw [if_neg h]
      refine List.pairwise_cons.2 ⟨fun y hy=>?_,noDup_put d2⟩
      intro e
      have hd:aGet (aPut l k x) y.1=some y.2:=aGet_of (noDup_put d2) (show (y.1,y.2)∈aPut l k x from hy)
      rw [aGet_put] at hd
      by_cases h2:y.1=k
      · exact h (e.trans h2)
      · rw [if_neg h2] at hd
        exact d1 _ (aGet_mem hd) e
theorem NoDup.put {k:κ} {x:β} {l:List (κ×β)} (d:NoDup l):NoDup (aPut l k x):=noDup_put d
end
end Go.Proofs.D.S
/- How a heap tells its blocks. -/
set_option linter.unusedVariables false
set_option linter.unusedSimpArgs false
namespace Go.Proofs.D.S
open Go Go.RowKit
def clsOf (e:Nat) (ch:Int):Int:=((Nat.log2 ch.toNat-e:Nat):Int)
def mkB (e:Nat) (b:Blk):Int×Int:=(b.at_,clsOf e b.ch)
theorem clsOf_pow {e k:Nat}:clsOf e ((2 ^ (e+k):Nat):Int)=(k:Int):=by
  unfold clsOf
  rw [Int.toNat_natCast,Nat.log2_two_pow,Nat.add_sub_cancel_left]
def covB (e q:Nat) (b:Blk):Bool:=decide (b.at_≤((q*2 ^ e:Nat):Int))&&decide (((q*2 ^ e:Nat):Int)<b.at_+b.ch)
def vB (b:Blk):V1:=bv b.at_ b.ch b.asked
def alB (bl:List Blk):List (Int×Blk):=bl.map fun b=>(b.at_,b)
def cntM (pg:Int) (bl:List Blk) (i:Nat):Int:=((bl.countP fun b=>over ((i:Int)*pg) pg b.at_ b.ch:Nat):Int)
structure HBl (s:HS) (e l u:Nat) (bl:List Blk):Prop where
  ms:s.ms=bl.map (mkB e)
  es:∃ al,s.es=encM kv vB al∧al.Perm (alB bl)
  met:s.met=tab s.met.length (cntM s.c.Pg bl)
  g:∀ q,s.g q=(decide (s.sz 0≤q)||bl.any (covB e q))
  srt:Srt bl
  bin:∀ b∈bl,Bin e l u b
structure HCf (s:HS) (e l u:Nat):Prop where
  tp:s.c.Tp e l u
  C:s.C=l+1
  so:SzOk s.C s.sz
  sz:2 ^ e*s.sz 0=s.mem.length
  mem:(s.mem.length:Int)=s.c.H
  on:(s.on.length:Int)*s.c.Pg=s.c.H
  met:s.met.length=s.on.length
  mm:s.mmi≠0
theorem kv_inj:∀ a b:Int,kv a=kv b→a=b:=fun a b h=>by cases h;rfl
section
variable {s:HS} {e l u:Nat} {bl:List Blk}
theorem Bin.form {b:Blk} (h:Bin e l u b):∃ k q:Nat,k≤l∧b.ch=((2 ^ (e+k):Nat):Int)∧b.at_=((q*2 ^ k*2 ^ e:Nat):Int):=by
  obtain ⟨k,a,h1,h2,h3,_⟩:=h
  exact ⟨k,a,h1,h2,by rw [h3,Nat.mul_assoc,← Nat.pow_add,Nat.add_comm k e]⟩
theorem HBl.ch1 (h:HBl s e l u bl):∀ b∈bl,1≤b.ch:=fun b hb=>by
  obtain ⟨k,q,_,e1,_⟩:=(h.bin b hb).form
  have:=Nat.two_pow_pos (e+k)
  rw [e1];omega
theorem alB_nodup (srt:Srt bl) (h1:∀ b∈bl,1≤b.ch):NoDup (alB bl):=by
  unfold NoDup alB
  rw [List.pairwise_map]
  refine List.Pairwise.imp_of_mem ?_ srt
  intro a b ha hb h
  have:=h1 a ha
  dsimp only;omega
theorem alB_get (srt:Srt bl) (h1:∀ b∈bl,1≤b.ch) {al:List (Int×Blk)} (p:al.Perm (alB bl)) (a:Int):aGet al a=(findB bl a).bind fun i=>bl[i]?:=by
  have nd:NoDup al:=(alB_nodup srt h1).perm p.symm
  cases hf:findB bl a with
  | none =>
    refine aGet_none.2 fun x hx hxa=>?_
    obtain ⟨b,hb,rfl⟩:=List.mem_map.1 (p.mem_iff.1 hx)
    obtain ⟨A,hA,e1,_⟩:=findB_mem srt h1 hb
    dsimp only at hxa
    rw [hxa,hf] at e1;cases e1
  | some i =>
    obtain ⟨hi,ha⟩:=findB_lt hf
    rw [Option.bind_some,List.getElem?_eq_getElem hi]
    exact aGet_of nd (p.mem_iff.2 (List.mem_map.2 ⟨bl[i],List.getElem_mem hi,by rw [ha]⟩))
theorem HBl.get (h:HBl s e l u bl) (a:Int):mapGet s.es (kv a)=((findB bl a).bind fun i=>bl[i]?).map vB:=by
  obtain ⟨al,e1,p⟩:=h.es
  rw [e1,mapGet_enc kv_inj,alB_get h.srt h.ch1 p]
theorem HBl.pages (h:HBl s e l u bl):(s.met.map fun n=>decide (n>0))=metP s.c.Pg s.met.length bl:=by
  rw [h.met]
  unfold metP
  apply List.ext_getElem
  · simp
  · intro i a b
    rw [List.getElem_map,tab_get,tab_get]
    unfold cntM
    rw [Bool.eq_iff_iff,decide_eq_true_eq,List.any_eq_true]
    have:=List.countP_pos_iff (p:=fun b=>over ((i:Int)*s.c.Pg) s.c.Pg b.at_ b.ch) (l:=bl)
    rw [show (((bl.countP fun b=>over ((i:Int)*s.c.Pg) s.c.Pg b.at_ b.ch:Nat):Int)>0)↔0<bl.countP fun b=>over ((i:Int)*s.c.Pg) s.c.Pg b.at_ b.ch by omega,this]
theorem pages_over {pg a n:Int} (hpg:1≤pg) (hn:1≤n) (i:Nat):((pagesP pg a n).1≤(i:Int)∧(i:Int)<(pagesP pg a n).2)↔over ((i:Int)*pg) pg a n=true:=by
  unfold pagesP over
  rw [if_neg (by omega)]
  simp only [Bool.and_eq_true,decide_eq_true_eq]
  have h1:a / pg≤(i:Int)↔a<((i:Int)+1)*pg:=by
    rw [← Int.lt_add_one_iff,Int.ediv_lt_iff_lt_mul (by omega)]
  have h2:(i:Int)≤(a+n-1) / pg↔(i:Int)*pg≤a+n-1:=Int.le_ediv_iff_mul_le (by omega)
  rw [Int.add_mul,Int.one_mul] at h1
  omega
theorem cnt_put (pg:Int) (i:Nat) (b:Blk) (bl:List Blk):cntM pg (b::bl) i=cntM pg bl i+if over ((i:Int)*pg) pg b.at_ b.ch=true then 1 else 0:=by
  unfold cntM
  rw [List.countP_cons]
  split <;> simp
theorem cnt_perm {pg:Int} {i:Nat} {a b:List Blk} (p:a.Perm b):cntM pg a i=cntM pg b i:=by
  unfold cntM;rw [p.countP_eq]
theorem met_add {pg:Int} (hpg:1≤pg) {b:Blk} (hb:1≤b.ch) {bl bl':List Blk} (p:bl'.Perm (b::bl)) (n:Nat):metQ (tab n (cntM pg bl)) (pagesP pg b.at_ b.ch).1 (pagesP pg b.at_ b.ch).2 1=tab n (cntM pg bl'):=by
  unfold metQ
  rw [tab_len]
  refine tab_congr fun i hi=>?_
  rw [tab_getD _ hi,cnt_perm p,cnt_put]
  congr 1
  by_cases h:over ((i:Int)*pg) pg b.at_ b.ch=true
  · rw [if_pos h,if_pos ((pages_over hpg hb i).2 h)]
  · rw [if_neg h,if_neg fun x=>h ((pages_over hpg hb i).1 x)]
theorem met_sub {pg:Int} (hpg:1≤pg) {b:Blk} (hb:1≤b.ch) {bl bl':List Blk} (p:bl.Perm (b::bl')) (n:Nat):metQ (tab n (cntM pg bl)) (pagesP pg b.at_ b.ch).1 (pagesP pg b.at_ b.ch).2 (-1)=tab n (cntM pg bl'):=by
  unfold metQ
  rw [tab_len]
  refine tab_congr fun i hi=>?_
  rw [tab_getD _ hi,cnt_perm p,cnt_put]
  by_cases h:over ((i:Int)*pg) pg b.at_ b.ch=true
  · rw [if_pos h,if_pos ((pages_over hpg hb i).2 h)];omega
  · rw [if_neg h,if_neg fun x=>h ((pages_over hpg hb i).1 x)];omega
theorem cov_iff {k q0 q:Nat} {b:Blk} (ha:b.at_=((q0*2 ^ e:Nat):Int)) (hc:b.ch=((2 ^ (e+k):Nat):Int)):covB e q b=true↔q0≤q∧q≤q0+2 ^ k-1:=by
  have z:=Nat.two_pow_pos e
  have zk:=Nat.two_pow_pos k
  unfold covB
  rw [Bool.and_eq_true,decide_eq_true_eq,decide_eq_true_eq,ha,hc,Nat.pow_add,Nat.mul_comm (2 ^ e) (2 ^ k)]
  have h1:q0*2 ^ e≤q*2 ^ e↔q0≤q:=Nat.mul_le_mul_right_iff z
  have h2:q*2 ^ e<(q0+2 ^ k)*2 ^ e↔q<q0+2 ^ k:=Nat.mul_lt_mul_right z
  rw [Nat.add_mul] at h2
  omega
theorem HBl.free (h:HBl s e l u bl) (c:HCf s e l u) {k p:Nat} (hk:k≤l):occ s.g k p=false↔(p<s.sz k∧freeB bl ((p:Int)*((2 ^ (e+k):Nat):Int)) ((2 ^ (e+k):Nat):Int)=true):=by
  have z:=Nat.two_pow_pos e
  have zk:=Nat.two_pow_pos k
  have hpw:=c.so.pw k (by rw [c.C];omega)
  have ep:(p:Int)*((2 ^ (e+k):Nat):Int)=((p*2 ^ k*2 ^ e:Nat):Int):=by rw [← Int.natCast_mul,Nat.pow_add,Nat.mul_comm (2 ^ e),Nat.mul_assoc]
  rw [occ_false,ep]
  constructor
  · intro f
    constructor
    · have h1:=f (p*2 ^ k+2 ^ k-1) (by omega) (by omega)
      rw [h.g,Bool.or_eq_false_iff] at h1
      have h2:=of_decide_eq_false h1.1
      rw [← hpw] at h2
      have h3:p*2 ^ k<s.sz k*2 ^ k:=by omega
      exact Nat.lt_of_mul_lt_mul_right h3
    · refine List.all_eq_true.2 fun b hb=>?_
      obtain ⟨kb,a,hkb,hch,hat⟩:=(h.bin b hb).form
      have zb:=Nat.two_pow_pos kb
      cases ho:over ((p*2 ^ k*2 ^ e:Nat):Int) ((2 ^ (e+k):Nat):Int) b.at_ b.ch with
      | false=>rfl
      | true =>
        exfalso
        unfold over at ho
        rw [Bool.and_eq_true,decide_eq_true_eq,decide_eq_true_eq,hch,hat,Nat.pow_add,Nat.pow_add,Nat.mul_comm (2 ^ e),Nat.mul_comm (2 ^ e)] at ho
        obtain ⟨o1,o2⟩:=ho
        rw [← Int.natCast_add,Int.ofNat_lt,← Nat.add_mul] at o1 o2
        have o3:=Nat.lt_of_mul_lt_mul_right o1
        have o4:=Nat.lt_of_mul_lt_mul_right o2
        have key:∀ q,p*2 ^ k≤q→q<p*2 ^ k+2 ^ k→a*2 ^ kb≤q→q<a*2 ^ kb+2 ^ kb→False:=fun q q1 q2 q3 q4=>by
          have h1:=f q q1 q2
          rw [h.g,Bool.or_eq_false_iff] at h1
          have h2:=List.any_eq_false.1 h1.2 b hb
          exact h2 ((cov_iff hat hch).2 ⟨q3,by omega⟩)
        by_cases hle:p*2 ^ k≤a*2 ^ kb
        · exact key (a*2 ^ kb) hle o4 (Nat.le_refl _) (by omega)
        · exact key (p*2 ^ k) (Nat.le_refl _) (by omega) (by omega) o3
  · rintro ⟨hp,hf⟩ q q1 q2
    rw [h.g,Bool.or_eq_false_iff]
    have h1:(p+1)*2 ^ k≤s.sz k*2 ^ k:=Nat.mul_le_mul_right _ hp
    rw [hpw,Nat.add_mul,Nat.one_mul] at h1
    refine ⟨decide_eq_false (by omega),List.any_eq_false.2 fun b hb hc=>?_⟩
    obtain ⟨kb,a,hkb,hch,hat⟩:=(h.bin b hb).form
    have zb:=Nat.two_pow_pos kb
    obtain ⟨c1,c2⟩:=(cov_iff hat hch).1 hc
    have hx:=List.all_eq_true.1 hf b hb
    simp only [Bool.not_eq_true'] at hx
    have ho:over ((p*2 ^ k*2 ^ e:Nat):Int) ((2 ^ (e+k):Nat):Int) b.at_ b.ch=true:=by
      unfold over
      rw [Bool.and_eq_true,decide_eq_true_eq,decide_eq_true_eq,hch,hat,Nat.pow_add,Nat.pow_add,Nat.mul_comm (2 ^ e),Nat.mul_comm (2 ^ e)]
      rw [← Int.natCast_add,← Int.natCast_add,Int.ofNat_lt,Int.ofNat_lt,← Nat.add_mul,← Nat.add_mul]
      exact ⟨Nat.mul_lt_mul_of_pos_right (by omega) z,Nat.mul_lt_mul_of_pos_right (by omega) z⟩
    rw [ho] at hx;cases hx
theorem ins_map {i:Nat} {b:Blk} (hi:i≤bl.length) (h1:∀ (p:Nat) (h:p<(bl.map (mkB e)).length),p<i→(bl.map (mkB e))[p].1<b.at_) (h2:∀ (p:Nat) (h:p<(bl.map (mkB e)).length),i≤p→b.at_<(bl.map (mkB e))[p].1) :
    insM (bl.map (mkB e)) i (mkB e b)=(putB bl b).map (mkB e):=by
  have e1:putB bl b=bl.take i++b::bl.drop i:=by
    rw [putB_take bl b i (fun j hj x hx=>?_) hi]
    · congr 1
      by_cases hl:i<bl.length
      · rw [List.drop_eq_getElem_cons hl]
        have:=h2 i (by simpa using hl) (Nat.le_refl _)
        simp only [List.getElem_map,mkB] at this
        simp only [putB]
        rw [if_pos this]
      · rw [List.drop_eq_nil_of_le (by omega)];rfl
    · obtain ⟨hj2,rfl⟩:=List.getElem?_eq_some_iff.1 hx
      have:=h1 j (by simpa using hj2) hj
      simp only [List.getElem_map,mkB] at this
      omega
  rw [e1]
  unfold insM
  rw [List.map_append,List.map_cons,List.map_take,List.map_drop]
theorem HBl.put (h:HBl s e l u bl) (c:HCf s e l u) {k p:Nat} (hk:k≤l) {b:Blk} (hat:b.at_=((p*2 ^ k*2 ^ e:Nat):Int)) (hch:b.ch=((2 ^ (e+k):Nat):Int)) (hb:Bin e l u b) (hfr:freeB bl b.at_ b.ch=true) {i:Nat} (hi:i≤s.ms.length)
    (h1:∀ (p:Nat) (h:p<s.ms.length),p<i→s.ms[p].1<b.at_) (h2:∀ (p:Nat) (h:p<s.ms.length),i≤p→b.at_<s.ms[p].1) {s':HS} (ec:s'.c=s.c) (ez:s'.sz=s.sz)
    (ems:s'.ms=insM s.ms i (b.at_,(k:Int))) (ees:s'.es=mapPut s.es (kv b.at_) (vB b)) (emet:s'.met=metQ s.met (pagesP s.c.Pg b.at_ b.ch).1 (pagesP s.c.Pg b.at_ b.ch).2 1) (eg:s'.g=useG true (p*2 ^ k) (p*2 ^ k+2 ^ k-1) s.g) :
    HBl s' e l u (putB bl b):=by
  have z:=Nat.two_pow_pos (e+k)
  have hch1:1≤b.ch:=by omega
  have perm:=putB_perm b bl
  have f:=c.tp.ok.facts
  obtain ⟨al,e1,pa⟩:=h.es
  have em:(b.at_,(k:Int))=mkB e b:=by unfold mkB;rw [hch,clsOf_pow]
  refine ⟨?_,⟨aPut al b.at_ b,?_,?_⟩,?_,fun q=>?_,?_,?_⟩
  · rw [ems,em]
    have hm:=h.ms
    rw [hm,List.length_map] at hi
    have key:∀ ms:List (Int×Int),ms=bl.map (mkB e)→(∀ (p:Nat) (h:p<ms.length),p<i→ms[p].1<b.at_)→(∀ (p:Nat) (h:p<ms.length),i≤p→b.at_<ms[p].1)→insM ms i (mkB e b)=(putB bl b).map (mkB e):=by
      rintro ms rfl k1 k2
      exact ins_map hi k1 k2
    exact key _ hm h1 h2
  · rw [ees,e1,mapPut_enc kv_inj]
  · have hn:aGet al b.at_=none:=by
      refine aGet_none.2 fun x hx hxa=>?_
      obtain ⟨y,hy,rfl⟩:=List.mem_map.1 (pa.mem_iff.1 hx)
      have c1:=h.ch1 y hy
      rcases freeB_apart hfr y hy with h3 | h3 <;> (dsimp only at hxa;omega)
    rw [aPut_new hn]
    refine (List.perm_append_comm).trans ?_
    unfold alB
    exact (pa.cons (b.at_,b)).trans ((perm.map fun b:Blk=>(b.at_,b)).symm)
  · rw [emet,ec,metQ_len]
    have hm:=h.met
    generalize s.met.length=n at hm ⊢
    rw [hm]
    exact met_add (by omega) hch1 perm n
  · rw [eg,ez]
    unfold useG
    have e2:(putB bl b).any (covB e q)=(covB e q b||bl.any (covB e q)):=by
      rw [perm.any_eq];rfl
    rw [e2]
    by_cases hc:covB e q b=true
    · rw [if_pos ((cov_iff hat hch).1 hc),hc];simp
    · rw [if_neg fun x=>hc ((cov_iff hat hch).2 x),h.g q]
      rw [Bool.not_eq_true] at hc
      rw [hc,Bool.false_or]
  · have:=h.srt.put (asked:=b.asked) hch1 h.ch1 hfr
    exact this
  · intro x hx
    rcases (putB_mem _ _ _).1 hx with rfl | hx
    · exact hb
    · exact h.bin x hx
theorem HBl.del (h:HBl s e l u bl) (c:HCf s e l u) {A:Nat} (hA:A<bl.length) {k p:Nat} (hat:bl[A].at_=((p*2 ^ k*2 ^ e:Nat):Int)) (hch:bl[A].ch=((2 ^ (e+k):Nat):Int)) (hk:k≤l) {s':HS} (ec:s'.c=s.c) (ez:s'.sz=s.sz)
    (ems:s'.ms=s.ms.take A++s.ms.drop (A+1)) (ees:s'.es=mapDel s.es (kv bl[A].at_)) (emet:s'.met=metQ s.met (pagesP s.c.Pg bl[A].at_ bl[A].ch).1 (pagesP s.c.Pg bl[A].at_ bl[A].ch).2 (-1)) (eg:s'.g=useG false (p*2 ^ k) (p*2 ^ k+2 ^ k-1) s.g) :
    HBl s' e l u (bl.take A++bl.drop (A+1)):=by
  have hc1:=h.ch1 _ (List.getElem_mem hA)
  have perm:=rest_perm hA
  have f:=c.tp.ok.facts
  obtain ⟨al,e1,pa⟩:=h.es
  have nd:NoDup al:=(alB_nodup h.srt h.ch1).perm pa.symm
  have hg:aGet al bl[A].at_=some bl[A]:=aGet_of nd (pa.mem_iff.2 (List.mem_map.2 ⟨bl[A],List.getElem_mem hA,rfl⟩))
  have hap:∀ x∈bl.take A++bl.drop (A+1),x.at_+x.ch≤bl[A].at_∨bl[A].at_+bl[A].ch≤x.at_:=by
    intro x hx
    have sr:=h.srt
    unfold Srt at sr
    rcases List.mem_append.1 hx with hx | hx
    · obtain ⟨i,hi,rfl⟩:=List.getElem_of_mem hx
      rw [List.length_take] at hi
      rw [List.getElem_take]
      exact .inl (List.pairwise_iff_getElem.1 sr i A (by omega) hA (by omega))
    · obtain ⟨i,hi,rfl⟩:=List.getElem_of_mem hx
      rw [List.length_drop] at hi
      rw [List.getElem_drop]
      exact .inr (List.pairwise_iff_getElem.1 sr A (A+1+i) hA (by omega) (by omega))
  refine ⟨?_,⟨aDel al bl[A].at_,?_,?_⟩,?_,fun q=>?_,h.srt.rest A,?_⟩
  · rw [ems,h.ms,List.map_append,List.map_take,List.map_drop]
  · rw [ees,e1,mapDel_enc kv_inj]
  · have p1:=aDel_perm hg
    have p2:=(perm.map fun b:Blk=>(b.at_,b))
    rw [List.map_cons] at p2
    exact ((p1.symm.trans pa).trans p2).cons_inv
  · rw [emet,ec,metQ_len]
    have hm:=h.met
    generalize s.met.length=n at hm ⊢
    rw [hm]
    exact met_sub (by omega) hc1 perm n
  · rw [eg,ez]
    unfold useG
    have e2:bl.any (covB e q)=(covB e q bl[A]||(bl.take A++bl.drop (A+1)).any (covB e q)):=by
      rw [perm.any_eq];rfl
    by_cases hc:covB e q bl[A]=true
    · have hr:=(cov_iff hat hch).1 hc
      rw [if_pos hr]
      symm
      rw [Bool.or_eq_false_iff]
      have zk:=Nat.two_pow_pos k
      constructor
      · refine decide_eq_false ?_
        have b1:=(h.bin _ (List.getElem_mem hA)).ok c.tp
        have hin:p*2 ^ k+2 ^ k≤s.sz 0:=by
          obtain ⟨kk,a,hkk,hcc,haa,ha⟩:=h.bin _ (List.getElem_mem hA)
          have hH:=(c.tp.ok.ceil (k:=(kk:Int)) (by omega) (by rw [c.tp.ex.hL];omega)).2.1
          rw [c.tp.ceil hkk,← c.mem,← c.sz] at hH
          have t1:(a+1)*2 ^ (e+kk)≤tP l u kk*(2+kk)*2 ^ (e+kk):=Nat.mul_le_mul_right _ ha
          rw [Nat.add_mul,Nat.one_mul] at t1
          have t2:p*2 ^ k*2 ^ e+2 ^ (e+k)≤2 ^ e*s.sz 0:=by
            have t3:=hat.symm.trans haa
            have t4:=hch.symm.trans hcc
            generalize tP l u kk*(2+kk)*2 ^ (e+kk)=T at *
            omega
          rw [Nat.pow_add,Nat.mul_comm (2 ^ e) (2 ^ k),← Nat.add_mul,Nat.mul_comm (2 ^ e)] at t2
          exact Nat.le_of_mul_le_mul_right t2 (Nat.two_pow_pos e)
        omega
      · refine List.any_eq_false.2 fun x hx hcx=>?_
        have a1:=hap x hx
        have c1:=h.ch1 x (perm.mem_iff.2 (List.mem_cons_of_mem _ hx))
        unfold covB at hc hcx
        rw [Bool.and_eq_true,decide_eq_true_eq,decide_eq_true_eq] at hc hcx
        omega
    · rw [if_neg fun x=>hc ((cov_iff hat hch).2 x),h.g q,e2]
      rw [Bool.not_eq_true] at hc
      rw [hc,Bool.false_or]
  · intro x hx
    exact h.bin x (perm.mem_iff.2 (List.mem_cons_of_mem _ hx))
theorem HBl.again (h:HBl s e l u bl) (c:HCf s e l u) {A:Nat} (hA:A<bl.length) {s':HS} (ec:s'.c=s.c) (ez:s'.sz=s.sz) (ems:s'.ms=s.ms) (eg:s'.g=s.g)
    (ees:s'.es=mapPut (mapDel s.es (kv bl[A].at_)) (kv bl[A].at_) (vB bl[A])) (emet:s'.met=metQ (metQ s.met (pagesP s.c.Pg bl[A].at_ bl[A].ch).1 (pagesP s.c.Pg bl[A].at_ bl[A].ch).2 (-1)) (pagesP s.c.Pg bl[A].at_ bl[A].ch).1 (pagesP s.c.Pg bl[A].at_ bl[A].ch).2 1):HBl s' e l u bl:=by
  have hc1:=h.ch1 _ (List.getElem_mem hA)
  have perm:=rest_perm hA
  have f:=c.tp.ok.facts
  obtain ⟨al,e1,pa⟩:=h.es
  have nd:NoDup al:=(alB_nodup h.srt h.ch1).perm pa.symm
  have hg:aGet al bl[A].at_=some bl[A]:=aGet_of nd (pa.mem_iff.2 (List.mem_map.2 ⟨bl[A],List.getElem_mem hA,rfl⟩))
  refine ⟨ems.trans h.ms,⟨aPut (aDel al bl[A].at_) bl[A].at_ bl[A],?_,?_⟩,?_,fun q=>by rw [eg,ez];exact h.g q,h.srt,h.bin⟩
  · rw [ees,e1,mapDel_enc kv_inj,mapPut_enc kv_inj]
  · rw [aPut_new (by rw [aGet_del nd,if_pos rfl])]
    exact (List.perm_append_comm).trans ((aDel_perm hg).symm.trans pa)
  · rw [emet,ec,metQ_len,metQ_len]
    have hm:=h.met
    generalize s.met.length=n at hm ⊢
    rw [hm,met_sub (by omega) hc1 perm n]
    exact met_add (by omega) hc1 perm n
end
end Go.Proofs.D.S
/- A block is placed in a heap,as the model places it. -/
set_option linter.unusedVariables false
set_option linter.unusedSimpArgs false
namespace Go.Proofs.D.S
open Go Go.RowKit
variable {G G' G0 G1:GH} {hid:Nat} {s:HS} {e l u:Nat} {bl:List Blk} {m:Mod}
structure HEq (s:HS) (m:Mod):Prop where
  c:m.c=s.c
  peak:m.peak=s.peak
  mark:m.mark=s.mark
  on:m.on=s.on
  mem:m.mem=s.mem
theorem HCf.pgs (c:HCf s e l u):∃ pg:Nat,s.c.Pg=(pg:Int)∧1≤pg∧s.on.length*pg=s.mem.length:=by
  have f:=c.tp.ok.facts
  refine ⟨s.c.Pg.toNat,by omega,by omega,?_⟩
  have h1:=c.on
  have h2:=c.mem
  have e1:s.c.Pg=((s.c.Pg.toNat:Nat):Int):=by omega
  rw [e1,← h2,← Int.natCast_mul] at h1
  exact_mod_cast h1
theorem HCf.onl (c:HCf s e l u):s.on.length≤65536:=by
  obtain ⟨pg,e1,h1,h2⟩:=c.pgs
  have f:=c.tp.ok.facts
  have hm:=c.mem
  have:=Nat.le_mul_of_pos_right s.on.length h1
  omega
theorem HBl.len (h:HBl s e l u bl):(bl.length:Int)≤chSum bl:=by
  have:∀ {bl:List Blk},(∀ b∈bl,1≤b.ch)→(bl.length:Int)≤chSum bl:=by
    intro bl
    induction bl with
    | nil=>intro _;decide
    | cons b bl ih =>
      intro h
      have h1:=ih fun x hx=>h x (by simp [hx])
      have h2:=h b (by simp)
      rw [chSum_cons,List.length_cons];omega
  exact this h.ch1
theorem HBl.sm (h:HBl s e l u bl) (c:HCf s e l u) (hl:s.live=chSum bl) (hM:chSum bl≤s.c.M):HSm s:=by
  have f:=c.tp.ok.facts
  have hlen:=h.len
  have ho:=c.onl
  refine ⟨by rw [c.met];omega,fun x hx=>?_,by omega,by omega⟩
  rw [h.met] at hx
  unfold tab at hx
  obtain ⟨i,_,rfl⟩:=List.mem_map.1 hx
  have:=List.countP_le_length (p:=fun b=>over ((i:Int)*s.c.Pg) s.c.Pg b.at_ b.ch) (l:=bl)
  unfold cntM
  omega
theorem puts_M (raw:HRaw G hid s) (c:HCf s e l u) (hb:HBl s e l u bl) (eq:HEq s m) (hl:s.live=chSum bl) {k:Nat} (hk:k≤l) (hM:chSum bl+((2 ^ (e+k):Nat):Int)≤s.c.M) (asked:Int) :
    (placeM m bl ((2 ^ (e+k):Nat):Int) asked).2.2≠7∧∃ (G':GH) (s':HS),CW F48.id [.c (.ptr hid 0),.c (.int .i64 ((2 ^ (e+k):Nat):Int)),.c (.int .i64 asked)] G=some ([.c (.int .i64 (placeM m bl ((2 ^ (e+k):Nat):Int) asked).2.1),.c (.int .i64 (placeM m bl ((2 ^ (e+k):Nat):Int) asked).2.2)],G') ∧
      HRaw G' hid s'∧FrX (s.X hid) G G'∧s'.X hid=s.X hid∧((placeM m bl ((2 ^ (e+k):Nat):Int) asked).2.2≠0→s' = s) ∧
      ((placeM m bl ((2 ^ (e+k):Nat):Int) asked).2.2=0→HCf s' e l u∧HBl s' e l u (placeM m bl ((2 ^ (e+k):Nat):Int) asked).1.bl∧HEq s' (placeM m bl ((2 ^ (e+k):Nat):Int) asked).1∧s'.live=(placeM m bl ((2 ^ (e+k):Nat):Int) asked).1.live∧s'.live=chSum (placeM m bl ((2 ^ (e+k):Nat):Int) asked).1.bl ∧
        0≤(placeM m bl ((2 ^ (e+k):Nat):Int) asked).2.1∧(placeM m bl ((2 ^ (e+k):Nat):Int) asked).2.1+((2 ^ (e+k):Nat):Int)≤s.mem.length∧s'.mem.length=s.mem.length):=by
  have f:=c.tp.ok.facts
  have z:=Nat.two_pow_pos (e+k)
  have ze:=Nat.two_pow_pos e
  have hmem:=c.mem
  have ho:=c.onl
  have sm:=hb.sm c hl (by omega)
  obtain ⟨pg,ePg,hpg,hon⟩:=c.pgs
  have hpw:=c.so.pw k (by rw [c.C];omega)
  obtain ⟨j,hj1,hj2,_⟩:=room c.tp hk hb.bin hM
  have fit:∀ p:Nat,p<s.sz k↔(p:Int)*((2 ^ (e+k):Nat):Int)+((2 ^ (e+k):Nat):Int)≤s.c.H:=by
    intro p
    rw [← Int.natCast_mul,← Int.natCast_add,← hmem,← c.sz,← hpw,Int.ofNat_le]
    have e1:p*2 ^ (e+k)+2 ^ (e+k)=(p+1)*(2 ^ k*2 ^ e):=by rw [Nat.add_mul,Nat.one_mul,Nat.pow_add,Nat.mul_comm (2 ^ e)]
    have e2:2 ^ e*(s.sz k*2 ^ k)=s.sz k*(2 ^ k*2 ^ e):=by rw [Nat.mul_comm,Nat.mul_assoc]
    rw [e1,e2]
    have z2:0<2 ^ k*2 ^ e:=Nat.mul_pos (Nat.two_pow_pos k) ze
    rw [Nat.mul_le_mul_right_iff z2]
    omega
  obtain ⟨hjH,hjf,_⟩:=(lowJ_some (by omega) (by omega)).1 hj1
  have hl2:=hb.len
  have hml:s.ms.length=bl.length:=by rw [hb.ms,List.length_map]
  have at_eq:∀ q:Nat,((q*2 ^ k*2 ^ e:Nat):Int)=(q:Int)*((2 ^ (e+k):Nat):Int):=fun q=>by rw [← Int.natCast_mul,Nat.pow_add,Nat.mul_comm (2 ^ e),Nat.mul_assoc]
  obtain ⟨q,i,at_,ea,q1,q2,q3,i1,i2,i3,body⟩:=F48.sp (asked:=asked) raw sm c.so c.tp.ok (e:=e) (l:=l) (k:=k) (pg:=pg) (Gg:=2 ^ e) c.tp.ex c.C hk (ch:=((2 ^ (e+k):Nat):Int)) rfl rfl c.sz (by omega) ePg hpg hon c.met
    ⟨j,(hb.free c hk).2 ⟨(fit j).2 hjH,hjf⟩⟩ (fun z hz m hm hx=>by
      obtain ⟨_,fr⟩:=(hb.free c hk).1 hz
      rw [hb.ms] at hm
      obtain ⟨b,hbm,rfl⟩:=List.mem_map.1 hm
      have c1:=hb.ch1 b hbm
      rw [at_eq] at hx
      rcases freeB_apart fr b hbm with h3 | h3 <;> (simp only [mkB] at hx;omega)) (by omega)
  rw [at_eq] at ea
  obtain ⟨q4,q5⟩:=(hb.free c hk).1 q2
  have hlow:lowJ s.c.H bl ((2 ^ (e+k):Nat):Int)=some q:=(lowJ_some (by omega) (by omega)).2 ⟨(fit q).1 q1,q5,fun p hp=>by
    have h1:=q3 p hp
    cases h2:freeB bl ((p:Int)*((2 ^ (e+k):Nat):Int)) ((2 ^ (e+k):Nat):Int) with
    | false=>rfl
    | true=>rw [(hb.free c hk).2 ⟨by omega,h2⟩] at h1;cases h1⟩
  have hqj:q=j:=by rw [hlow] at hj1;cases hj1;rfl
  have hR:lowR m.c.H bl ((2 ^ (e+k):Nat):Int)=(at_,true):=by unfold lowR;rw [eq.c,hlow,ea]
  have hpgs:=hb.pages
  have hmet:=c.met
  rw [hpgs,hmet] at body
  have hq0:0≤at_:=by rw [ea];exact Int.mul_nonneg (by omega) (by omega)
  have hqH:=(fit q).1 q1
  rw [← ea] at hqH q5
  have perm:=putB_perm ⟨at_,((2 ^ (e+k):Nat):Int),asked⟩ bl
  rcases body with ⟨h1,G',h2,h3,h4⟩ | ⟨on',fr,h1,tid,sid,oni,G',h2,h3,h4⟩
  · have ep:placeM m bl ((2 ^ (e+k):Nat):Int) asked=(m,0,6):=by
      unfold placeM
      rw [hR,if_pos rfl,eq.c,eq.on,h1]
    rw [ep]
    exact ⟨(show (6:Int)≠7 by decide),G',s,h2,h3,h4,rfl,fun _=>rfl,fun h=>absurd h (show ¬ (6:Int)=0 by decide)⟩
  · have ep:placeM m bl ((2 ^ (e+k):Nat):Int) asked=(⟨m.c,putB bl ⟨at_,((2 ^ (e+k):Nat):Int),asked⟩,chSum (putB bl ⟨at_,((2 ^ (e+k):Nat):Int),asked⟩),max m.peak (chSum (putB bl ⟨at_,((2 ^ (e+k):Nat):Int),asked⟩)),max m.mark (at_+((2 ^ (e+k):Nat):Int)),on',fr.foldl (fun mem p=>fillP mem m.c.Sd p m.c.Pg) m.mem⟩,at_,0):=by
      unfold placeM
      rw [hR,if_pos rfl,eq.c,eq.on,h1]
    have hcs:chSum (putB bl ⟨at_,((2 ^ (e+k):Nat):Int),asked⟩)=s.live+((2 ^ (e+k):Nat):Int):=by
      rw [chSum_perm perm,chSum_cons,hl];exact Int.add_comm _ _
    have onl:on'.length=s.on.length:=(commitP_some h1).1
    have fl:(fillsP s.c fr s.mem).length=s.mem.length:=fillsP_len fr s.mem
    rw [ep]
    refine ⟨(show (0:Int)≠7 by decide),G',_,h2,h3,h4,rfl,fun h=>absurd rfl h,fun _=>⟨⟨c.tp,c.C,c.so,?_,?_,?_,?_,c.mm⟩,?_,⟨eq.c,?_,?_,rfl,?_⟩,?_,?_,hq0,by rw [hmem];exact hqH,fl⟩⟩
    · show 2 ^ e*s.sz 0=(fillsP s.c fr s.mem).length
      rw [fl];exact c.sz
    · show ((fillsP s.c fr s.mem).length:Int)=s.c.H
      rw [fl];exact c.mem
    · show (on'.length:Int)*s.c.Pg=s.c.H
      rw [onl];exact c.on
    · show (metQ s.met _ _ 1).length=on'.length
      rw [metQ_len,onl];exact c.met
    · exact hb.put c (k:=k) (p:=q) hk (b:=⟨at_,((2 ^ (e+k):Nat):Int),asked⟩) (by show at_=_;rw [ea,at_eq]) rfl (by
        have:=Bin.new (g:=e) (u:=u) hk hj2 asked
        rw [← hqj,← ea] at this
        exact this) q5 i1 i2 i3 rfl rfl rfl rfl rfl rfl
    · show max m.peak (chSum _)=max s.peak (s.live+_)
      rw [eq.peak,hcs]
    · show max m.mark _=max s.mark _
      rw [eq.mark]
    · show fr.foldl (fun mem p=>fillP mem m.c.Sd p m.c.Pg) m.mem=fillsP s.c fr s.mem
      rw [eq.c,eq.mem];rfl
    · show s.live+_=chSum _
      rw [hcs]
    · show s.live+_=chSum _
      rw [hcs]
end Go.Proofs.D.S
/- A heap and its model: what asks,what goes. -/
set_option linter.unusedVariables false
set_option linter.unusedSimpArgs false
namespace Go.Proofs.D.S
open Go Go.RowKit
variable {G G' G0 G1:GH} {hid:Nat} {s:HS} {e l u:Nat} {bl:List Blk} {m:Mod}
structure HM (G:GH) (hid:Nat) (s:HS) (e l u:Nat) (m:Mod):Prop where
  raw:HRaw G hid s
  cf:HCf s e l u
  bl:HBl s e l u m.bl
  eq:HEq s m
  live:m.live=s.live
  ok:m.Ok
def HDo (G:GH) (hid:Nat) (s:HS) (e l u:Nat) (x:Option Res) (r:Mod×AnsV):Prop :=
  ∃ (G':GH) (s':HS),x=some ([.agg (eAns r.2)],G')∧HM G' hid s' e l u r.1∧FrX (s.X hid) G G'∧s'.X hid=s.X hid
theorem HM.tp (h:HM G hid s e l u m):m.c.Tp e l u:=by rw [h.eq.c];exact h.cf.tp
theorem HM.keep {R:List (Nat×Obj)} (h:HM G hid s e l u m) (k:Hp G G' R):HM G' hid s e l u m:=⟨h.raw.keep k,h.cf,h.bl,h.eq,h.live,h.ok⟩
theorem HM.setMem (h:HM G hid s e l u m) {mem':List Int} (hl:mem'.length=s.mem.length) (r:HRaw G' hid { s with mem:=mem' }):HM G' hid { s with mem:=mem' } e l u { m with mem:=mem' } :=
  ⟨r,⟨h.cf.tp,h.cf.C,h.cf.so,by show _=mem'.length;rw [hl];exact h.cf.sz,by show (mem'.length:Int)=_;rw [hl];exact h.cf.mem,h.cf.on,h.cf.met,h.cf.mm⟩,⟨h.bl.ms,h.bl.es,h.bl.met,h.bl.g,h.bl.srt,h.bl.bin⟩,⟨h.eq.c,h.eq.peak,h.eq.mark,h.eq.on,rfl⟩,h.live,
    ⟨h.ok.c,h.ok.bl,h.ok.live,h.ok.lim,h.ok.peak,h.ok.mark,h.ok.on,by show (mem'.length:Int)=m.c.H;rw [hl,h.eq.c];exact h.cf.mem⟩⟩
theorem HM.small (h:HM G hid s e l u m):-1000000000≤s.live∧s.live≤1000000000:=by
  have f:=h.cf.tp.ok.facts
  have l1:=h.live
  have l2:=h.ok.lim
  have l3:=h.ok.live
  have l4:=h.bl.len
  rw [h.eq.c] at l2
  omega
theorem placeM_at {m:Mod} {l:List Blk} {n asked:Int} (hn:1≤n) (hH:0≤m.c.H) (h:(placeM m l n asked).2.2≠0):(placeM m l n asked).2.1=0:=by
  rcases placeM_cases m l (asked:=asked) hn hH with ⟨_,e⟩ | e | ⟨j,on',fr,_,_,_,_,_,_,e⟩
  · rw [e]
  · rw [e]
  · rw [e] at h;exact absurd rfl h
def giveR (m:Mod) (r:Int×Int) (asked:Int):Mod×AnsV :=
  if r.2=0 then (if (placeM m m.bl r.1 asked).2.2=0 then ((placeM m m.bl r.1 asked).1,⟨0,(placeM m m.bl r.1 asked).2.1,0,0,0,0,0,0⟩) else (m,errA (placeM m m.bl r.1 asked).2.2)) else (m,errA r.2)
theorem asks_M (h:HM G hid s e l u m) {r:Int×Int} (hr:(r.2≠0∧r.1=0)∨(r.2=0∧m.live+r.1≤m.c.M∧∃ k:Nat,k≤l∧r.1=((2 ^ (e+k):Nat):Int))) (asked:Int) :
    HDo G hid s e l u (CW F49.id [.c (.ptr hid 0),.c (.int .i64 r.1),.c (.int .i64 asked),.c (.int .i64 r.2)] G) (giveR m r asked):=by
  unfold giveR
  rcases hr with ⟨h1,_⟩ | ⟨h1,hM,k,hk,he⟩
  · rw [if_neg h1]
    exact ⟨G,s,F49.bad h1,h,FrX.refl,rfl⟩
  · rw [if_pos h1,h1,he]
    have z:=Nat.two_pow_pos (e+k)
    have hl:=h.ok.live
    rw [he,h.ok.live,h.eq.c] at hM
    obtain ⟨n7,G',s',e1,r1,f1,x1,bad,good⟩:=puts_M h.raw h.cf h.bl h.eq (by rw [← h.live];exact hl) hk hM asked
    have hf:=h.ok.c.facts
    by_cases hq:(placeM m m.bl ((2 ^ (e+k):Nat):Int) asked).2.2=0
    · rw [if_pos hq]
      obtain ⟨c1,b1,q1,l1,l2,a1,a2,a3⟩:=good hq
      rw [hq] at e1
      obtain ⟨k1,k2,_,_⟩:=placeM_ok h.ok (asked:=asked) (show 1≤((2 ^ (e+k):Nat):Int) by omega) h.ok.bl (by rw [h.eq.c];exact hM) hq
      exact ⟨G',s',F49.good e1,⟨r1,c1,b1,q1,l1.symm,k1⟩,f1,x1⟩
    · rw [if_neg hq]
      have:=bad hq
      subst this
      have ha:=placeM_at (show 1≤((2 ^ (e+k):Nat):Int) by omega) (by omega) hq
      rw [ha] at e1
      exact ⟨G',s',F49.good e1,⟨r1,h.cf,h.bl,h.eq,h.live,h.ok⟩,f1,rfl⟩
theorem zeroP_eq {mem:List Int} {a n:Int} (h0:0≤a) (h1:0≤n) (h2:a+n≤mem.length):zeroP mem a n=mem.take a.toNat++List.replicate n.toNat 0++mem.drop (a.toNat+n.toNat):=by
  apply List.ext_getElem
  · rw [zeroP_len];simp only [List.length_append,List.length_take,List.length_replicate,List.length_drop];omega
  · intro i i1 i2
    rw [zeroP_len] at i1
    rw [show (zeroP mem a n)[i]=if a≤(i:Int)∧(i:Int)<a+n then 0 else mem.getD i 0 from tab_get (by rw [tab_len];exact i1)]
    by_cases hx:a≤(i:Int)∧(i:Int)<a+n
    · rw [if_pos hx,List.getElem_append_left (by simp only [List.length_append,List.length_take,List.length_replicate];omega),List.getElem_append_right (by simp only [List.length_take];omega),List.getElem_replicate]
    · rw [if_neg hx,getD_lt _ i1]
      by_cases hy:(i:Int)<a
      · rw [List.getElem_append_left (by simp only [List.length_append,List.length_take,List.length_replicate];omega),List.getElem_append_left (by simp only [List.length_take];omega),List.getElem_take]
      · rw [List.getElem_append_right (by simp only [List.length_append,List.length_take,List.length_replicate];omega),List.getElem_drop]
        congr 1
        simp only [List.length_append,List.length_take,List.length_replicate];omega
theorem aligned_M (h:HM G hid s e l u m) {o:OpV} {al:Int} (hk:o.k≠2) (hal:al=if o.k=3 then o.a else 1) (ha:R64 al) :
    HDo G hid s e l u (CW F16.id [.c (.ptr hid 0),.c (.int .i64 o.s),.c (.int .i64 al)] G) (giveM m o):=by
  have eg:giveM m o=giveR m (newS m.c.G m.c.N m.c.M m.live o.s al) o.s:=by
    unfold giveM giveR
    simp only [if_neg hk,← hal]
  rw [eg]
  obtain ⟨G',s',e1,x⟩:=asks_M h (charge_new h.tp.ex m.live o.s al) o.s
  refine ⟨G',s',?_,x⟩
  rw [h.eq.c,h.live] at e1 ⊢
  exact F16.sp h.raw h.cf.tp.ok h.small ha (by simp) rfl e1
theorem manyS_prod {G N M live n s:Int} (h:(manyS G N M live n s).2=0) (hN:N≤65536):(productS N n s).1=wrap64 (n*s):=by
  unfold manyS at h
  by_cases hp:(productS N n s).2=0
  · unfold productS at hp ⊢
    by_cases h1:n<0∨s<0
    · rw [if_pos h1] at hp;cases hp
    · rw [if_neg h1] at hp ⊢
      by_cases h2:n*s>N
      · rw [if_pos h2] at hp;cases hp
      · rw [if_neg h2]
        have:0≤n*s:=Int.mul_nonneg (by omega) (by omega)
        rw [wrap_id (by omega) (by omega)]
  · rw [if_neg hp] at h;exact absurd h hp
theorem calloc_M (h:HM G hid s e l u m) {o:OpV} (hk:o.k=2) (hn:R64 o.n) (hs:R64 o.s) :
    HDo G hid s e l u (CW F22.id [.c (.ptr hid 0),.c (.int .i64 o.n),.c (.int .i64 o.s)] G) (giveM m o):=by
  have fs:=h.cf.tp.ok.facts
  have cm:=charge_many h.tp.ex m.live o.n o.s
  obtain ⟨G',s',e1,h1,f1,x1⟩:=asks_M h cm (productS s.c.N o.n o.s).1
  have ec:=h.eq.c
  have el:=h.live
  have hmem:s'.mem.length≤65536:=by
    have a:=h1.cf.mem
    have b:=h1.cf.tp.ok.facts
    omega
  have eg:giveM m o=if (giveR m (manyS m.c.G m.c.N m.c.M m.live o.n o.s) (productS s.c.N o.n o.s).1).2.err=0 then ({ (giveR m (manyS m.c.G m.c.N m.c.M m.live o.n o.s) (productS s.c.N o.n o.s).1).1 with mem:=zeroP (giveR m (manyS m.c.G m.c.N m.c.M m.live o.n o.s) (productS s.c.N o.n o.s).1).1.mem (giveR m (manyS m.c.G m.c.N m.c.M m.live o.n o.s) (productS s.c.N o.n o.s).1).2.at_ (manyS m.c.G m.c.N m.c.M m.live o.n o.s).1 },(giveR m (manyS m.c.G m.c.N m.c.M m.live o.n o.s) (productS s.c.N o.n o.s).1).2) else giveR m (manyS m.c.G m.c.N m.c.M m.live o.n o.s) (productS s.c.N o.n o.s).1:=by
    unfold giveM giveR
    simp only [if_pos hk]
    by_cases h2:(manyS m.c.G m.c.N m.c.M m.live o.n o.s).2=0
    · have hp:=manyS_prod h2 (by rw [ec];omega)
      rw [ec] at hp
      simp only [if_pos h2]
      rw [hp]
      by_cases hq:(placeM m m.bl (manyS m.c.G m.c.N m.c.M m.live o.n o.s).1 (wrap64 (o.n*o.s))).2.2=0
      · simp only [if_pos hq,if_true]
      · simp only [if_neg hq,errA]
    · simp only [if_neg h2,errA]
  have hz:(giveR m (manyS m.c.G m.c.N m.c.M m.live o.n o.s) (productS s.c.N o.n o.s).1).2.err=0→0≤(giveR m (manyS m.c.G m.c.N m.c.M m.live o.n o.s) (productS s.c.N o.n o.s).1).2.at_∧0≤(manyS m.c.G m.c.N m.c.M m.live o.n o.s).1∧(giveR m (manyS m.c.G m.c.N m.c.M m.live o.n o.s) (productS s.c.N o.n o.s).1).2.at_+(manyS m.c.G m.c.N m.c.M m.live o.n o.s).1≤s'.mem.length:=by
    have hH:(s'.mem.length:Int)=(giveR m (manyS m.c.G m.c.N m.c.M m.live o.n o.s) (productS s.c.N o.n o.s).1).1.c.H:=by rw [h1.eq.c];exact h1.cf.mem
    intro hz
    rw [hH]
    unfold giveR at hz ⊢
    rcases cm with ⟨c1,_⟩ | ⟨c1,c2,k,c3,c4⟩
    · rw [if_neg c1] at hz;exact absurd hz c1
    · rw [if_pos c1] at hz ⊢
      have z:=Nat.two_pow_pos (e+k)
      by_cases hq:(placeM m m.bl (manyS m.c.G m.c.N m.c.M m.live o.n o.s).1 (productS s.c.N o.n o.s).1).2.2=0
      · rw [if_pos hq] at hz ⊢
        obtain ⟨k1,k2,k3,k4⟩:=placeM_ok h.ok (by omega) h.ok.bl (by rw [← h.ok.live];exact c2) hq
        rw [k2]
        exact ⟨k3,by omega,k4⟩
      · rw [if_neg hq] at hz;exact absurd hz hq
  rw [eg]
  generalize giveR m (manyS m.c.G m.c.N m.c.M m.live o.n o.s) (productS s.c.N o.n o.s).1=X at *
  rw [ec,el] at hz e1 ⊢
  obtain ⟨G2,e2,h2,f2⟩:=F22.sp h.raw h.cf.tp.ok h.small hn hs h1.raw e1 hz hmem
  have fr:FrX (s.X hid) G G2:=f1.trans (by rw [← x1];exact f2)
  by_cases h0:X.2.err=0
  · obtain ⟨z1,z2,z3⟩:=hz h0
    rw [if_pos h0]
    rw [if_pos h0,← zeroP_eq z1 z2 z3] at h2
    refine ⟨G2,{ s' with mem:=zeroP s'.mem X.2.at_ (manyS s.c.G s.c.N s.c.M s.live o.n o.s).1 },e2,?_,fr,x1⟩
    dsimp only
    rw [h1.eq.mem]
    exact h1.setMem (zeroP_len _ _ _) h2
  · rw [if_neg h0]
    rw [if_neg h0] at h2
    exact ⟨G2,s',e2,⟨h2,h1.cf,h1.bl,h1.eq,h1.live,h1.ok⟩,fr,x1⟩
def goneS (s:HS) (b:Blk) (A k q tid sid:Nat):HS :=
  { s.eng tid sid (useG false (q*2 ^ k) (q*2 ^ k+2 ^ k-1) s.g) (s.ms.take A++s.ms.drop (A+1)) with es:=mapDel s.es (kv b.at_),met:=metQ s.met (pagesP s.c.Pg b.at_ b.ch).1 (pagesP s.c.Pg b.at_ b.ch).2 (-1),live:=s.live-b.ch }
theorem gone_M (raw:HRaw G hid s) (c:HCf s e l u) (hb:HBl s e l u bl) (hl:s.live=chSum bl) (hM:chSum bl≤s.c.M) {A:Nat} (hA:A<bl.length) :
    ∃ (k q tid sid:Nat) (G':GH),CW F50.id [.c (.ptr hid 0),vB bl[A]] G=some ([],G')∧HRaw G' hid (goneS s bl[A] A k q tid sid)∧FrX (s.X hid) G G'∧HCf (goneS s bl[A] A k q tid sid) e l u∧HBl (goneS s bl[A] A k q tid sid) e l u (bl.take A++bl.drop (A+1)):=by
  have f:=c.tp.ok.facts
  have sm:=hb.sm c hl hM
  have hmem:=c.mem
  have hin:=hb.bin _ (List.getElem_mem hA)
  have bok:=hin.ok c.tp
  obtain ⟨k,a,hk,hch,hat0,ha⟩:=hin
  have hat:bl[A].at_=((a*2 ^ k*2 ^ e:Nat):Int):=by rw [hat0,Nat.mul_assoc,← Nat.pow_add,Nat.add_comm k e]
  have hms:s.ms=bl.map (mkB e):=hb.ms
  have hi:A<s.ms.length:=by rw [hms,List.length_map];exact hA
  have hm:s.ms[A]=(((a*2 ^ k*2 ^ e:Nat):Int),(k:Int)):=by
    have:∀ ms (h:A<ms.length),ms=bl.map (mkB e)→ms[A]=mkB e bl[A]:=by rintro ms h rfl;simp
    rw [this _ hi hms]
    unfold mkB
    rw [hch,clsOf_pow,hat]
  have hq:a*2 ^ k+2 ^ k≤s.sz 0:=by
    have hH:=(c.tp.ok.ceil (k:=(k:Int)) (by omega) (by rw [c.tp.ex.hL];omega)).2.1
    rw [c.tp.ceil hk,← c.mem,← c.sz] at hH
    have t1:(a+1)*2 ^ (e+k)≤tP l u k*(2+k)*2 ^ (e+k):=Nat.mul_le_mul_right _ ha
    have t2:(a+1)*2 ^ (e+k)≤2 ^ e*s.sz 0:=by
      generalize tP l u k*(2+k)*2 ^ (e+k)=T at *
      omega
    rw [Nat.pow_add,Nat.mul_comm (2 ^ e) (2 ^ k),← Nat.mul_assoc,Nat.mul_comm (2 ^ e)] at t2
    have t3:=Nat.le_of_mul_le_mul_right t2 (Nat.two_pow_pos e)
    rw [Nat.add_mul,Nat.one_mul] at t3
    exact t3
  obtain ⟨tid,sid,G',e1,r1,f1⟩:=F50.sp (asked:=bl[A].asked) raw sm c.so (Gg:=2 ^ e) (k:=k) (q:=a*2 ^ k) (i:=A) c.tp.ex.hG ⟨Nat.two_pow_pos e,by rw [c.sz];omega⟩ (by rw [c.C];omega) hi hm hq hat (by omega) (by omega:0≤bl[A].ch∧bl[A].ch≤65536)
  refine ⟨k,a,tid,sid,G',e1,r1,f1,⟨c.tp,c.C,c.so,c.sz,c.mem,c.on,by show (metQ s.met _ _ (-1)).length=_;rw [metQ_len];exact c.met,c.mm⟩,hb.del c hA hat hch hk rfl rfl rfl rfl rfl rfl⟩
end Go.Proofs.D.S
/- A heap and its model: a block is asked for anew;every call. -/
set_option linter.unusedVariables false
set_option linter.unusedSimpArgs false
namespace Go.Proofs.D.S
open Go Go.RowKit
variable {G G' G0 G1:GH} {hid:Nat} {s:HS} {e l u:Nat} {bl:List Blk} {m:Mod}
theorem HRaw.slMem (h:HRaw G hid s):Sl G eU8 s.mmi 0 s.mem:=.inr ⟨_,row_row h.mem,by omega,by rw [List.drop_zero,List.take_length]⟩
theorem realloc_M (h:HM G hid s e l u m) {o:OpV} (ho:o.k=4) {A:Nat} (hA:A<m.bl.length) :
    HDo G hid s e l u (CW F17.id [.c (.ptr hid 0),vB m.bl[A],.c (.int .i64 o.s)] G) (ofM m o A m.bl[A]):=by
  have f:=h.cf.tp.ok.facts
  have hsm:=h.small
  have hmem:=h.cf.mem
  have hin:=h.bl.bin _ (List.getElem_mem hA)
  have bok:=hin.ok h.cf.tp
  have hbin:=h.ok.bl _ (List.getElem_mem hA)
  rw [h.eq.c,← hmem] at hbin
  have ec:=h.eq.c
  have elv:=h.live
  have hl:=h.ok.live
  have hlim:=h.ok.lim
  have hrest:=chSum_rest hA
  have hrl:=chSum_len (h.ok.bl.rest A)
  have ad:=F88.sp (G:=G) h.cf.tp.ok (live:=s.live) (old:=m.bl[A].ch) (s:=o.s) (by omega)
  rw [cfC] at ad
  have cr:=charge_new h.cf.tp.ex (s.live-m.bl[A].ch) o.s 1
  obtain ⟨l0,l1,l2,l3,l4,l5,l6,l7⟩:=h.raw.conf
  have ldc:∀ {G':GH} {R:List (Nat×Obj)},Hp G G' R→∀ k,G'.ld hid k=s.cells[k]?:=fun k j=>(h.raw.keep k).ld j
  have l12:G.ld hid 12=some (.int .i64 s.live):=by rw [h.raw.ld];rfl
  have l17:G.ld hid 17=some (.sl 1 s.mmi 0 s.mem.length):=by rw [h.raw.ld];rfl
  have l8:G.ld hid 8=some (.int .i64 s.c.G):=by rw [h.raw.ld];rfl
  have l9:G.ld hid 9=some (.sl 2 s.tid 0 s.C):=by rw [h.raw.ld];rfl
  have l10:G.ld hid 10=some (.sl 2 s.sid 0 s.ms.length):=by rw [h.raw.ld];rfl
  have hof:ofM m o A m.bl[A]=if (newS s.c.G s.c.N s.c.M (s.live-m.bl[A].ch) o.s 1).2=0 then
      (if (placeM m (m.bl.take A++m.bl.drop (A+1)) (newS s.c.G s.c.N s.c.M (s.live-m.bl[A].ch) o.s 1).1 o.s).2.2=0 then
        ({ (placeM m (m.bl.take A++m.bl.drop (A+1)) (newS s.c.G s.c.N s.c.M (s.live-m.bl[A].ch) o.s 1).1 o.s).1 with mem:=(placeM m (m.bl.take A++m.bl.drop (A+1)) (newS s.c.G s.c.N s.c.M (s.live-m.bl[A].ch) o.s 1).1 o.s).1.mem.take (placeM m (m.bl.take A++m.bl.drop (A+1)) (newS s.c.G s.c.N s.c.M (s.live-m.bl[A].ch) o.s 1).1 o.s).2.1.toNat++(m.mem.drop m.bl[A].at_.toNat).take (min (newS s.c.G s.c.N s.c.M (s.live-m.bl[A].ch) o.s 1).1 m.bl[A].ch).toNat++(placeM m (m.bl.take A++m.bl.drop (A+1)) (newS s.c.G s.c.N s.c.M (s.live-m.bl[A].ch) o.s 1).1 o.s).1.mem.drop ((placeM m (m.bl.take A++m.bl.drop (A+1)) (newS s.c.G s.c.N s.c.M (s.live-m.bl[A].ch) o.s 1).1 o.s).2.1+min (newS s.c.G s.c.N s.c.M (s.live-m.bl[A].ch) o.s 1).1 m.bl[A].ch).toNat },⟨0,(placeM m (m.bl.take A++m.bl.drop (A+1)) (newS s.c.G s.c.N s.c.M (s.live-m.bl[A].ch) o.s 1).1 o.s).2.1,0,0,0,0,0,0⟩)
      else (m,errA (placeM m (m.bl.take A++m.bl.drop (A+1)) (newS s.c.G s.c.N s.c.M (s.live-m.bl[A].ch) o.s 1).1 o.s).2.2)) else (m,errA (newS s.c.G s.c.N s.c.M (s.live-m.bl[A].ch) o.s 1).2):=by
    unfold ofM
    rw [if_pos ho,ec,elv]
  rw [hof]
  clear hof
  unfold vB
  rw [F17.cw]
  unfold F17.f
  rw [guardK_of (nb0 h.raw.h0)]
  simp only [Nat.zero_add,Nat.add_zero,Nat.reduceAdd,l0,l1,l2,l3,l4,l5,l6,l7,Qs]
  rw [guardK_of (nb0 h.raw.h0),l12]
  simp only [Qs]
  rw [ad]
  simp only [Qs]
  generalize hr:newS s.c.G s.c.N s.c.M (s.live-m.bl[A].ch) o.s 1=r at *
  rcases cr with ⟨c1,_⟩ | ⟨c1,c2,k,hk,he⟩
  · rw [if_neg c1,condN_pos c1]
    exact ⟨G,s,rfl,h,FrX.refl,rfl⟩
  · rw [if_pos c1,condN_neg c1,guardK_of (nb0 h.raw.h0),l17]
    simp only [Qs]
    have z:=Nat.two_pow_pos (e+k)
    obtain ⟨a,ea⟩:∃ a:Nat,m.bl[A].at_=(a:Int):=⟨m.bl[A].at_.toNat,by omega⟩
    obtain ⟨n,en⟩:∃ n:Nat,min m.bl[A].ch r.1=(n:Int):=⟨(min m.bl[A].ch r.1).toNat,by omega⟩
    have en2:min r.1 m.bl[A].ch=(n:Int):=by omega
    have hn1:1≤n:=by omega
    have han:a+n≤s.mem.length:=by omega
    have hnr:(n:Int)≤r.1:=by omega
    rw [mn2_eq,en,ea,i64w,wrap_id (by omega) (by omega),guardD_of (by omega),guardK_of (nb0 h.raw.h0)]
    have et:((a:Int)+(n:Int)).toNat-(a:Int).toNat=n:=by omega
    simp only [l8,l9,l10,Qs]
    rw [et,Int.toNat_natCast]
    have xl:((s.mem.drop a).take n).length=n:=by simp only [List.length_take,List.length_drop];omega
    have sl0:=h.raw.slMem.sub (k:=1) a n han
    rw [Nat.zero_add] at sl0
    have mm0:=h.cf.mm
    obtain ⟨cid,G1,k1,k2,k3⟩:=F6.sp h.raw.w mm0 sl0 (by omega)
    rw [xl] at k1
    rw [Nat.zero_add,k1]
    have j8:G1.ld hid 8=some (.int .i64 s.c.G):=by rw [ldc k2];rfl
    have j9:G1.ld hid 9=some (.sl 2 s.tid 0 s.C):=by rw [ldc k2];rfl
    have j10:G1.ld hid 10=some (.sl 2 s.sid 0 s.ms.length):=by rw [ldc k2];rfl
    simp only [j8,j9,j10,Qs]
    rw [guardD_of trivial]
    have h1:=h.keep k2
    have sx1:Sx (s.X hid) G1 eU8 cid 0 ((s.mem.drop a).take n):=k2.sx (List.mem_cons_self ..) h.raw.ids
    obtain ⟨kk,q,tid,sid,G2,g1,g2,g3,g4,g5⟩:=gone_M h1.raw h1.cf h1.bl (by omega) (by rw [← hl,← ec];exact hlim) hA
    unfold vB at g1
    rw [ea] at g1
    rw [g1]
    simp only [Qs]
    have eq2:HEq (goneS s m.bl[A] A kk q tid sid) m:=⟨h.eq.c,h.eq.peak,h.eq.mark,h.eq.on,h.eq.mem⟩
    have gl:(goneS s m.bl[A] A kk q tid sid).live=chSum (m.bl.take A++m.bl.drop (A+1)):=by show s.live-m.bl[A].ch=_;omega
    have gM:chSum (m.bl.take A++m.bl.drop (A+1))+((2 ^ (e+k):Nat):Int)≤(goneS s m.bl[A] A kk q tid sid).c.M:=by
      show _≤s.c.M;rw [← he];omega
    obtain ⟨n7,G3,s3,p1,p2,p3,p4,bad,good⟩:=puts_M g2 g4 g5 eq2 gl hk gM o.s
    have fr3:FrX (s.X hid) G1 G3:=g3.trans p3
    have frA:FrX (s.X hid) G G3:=(FrX.hp k2).trans fr3
    have sx3:=sx1.fr fr3 k2.wf
    rw [← he] at p1 bad good
    have pl:=placeM_ok h.ok (l:=m.bl.take A++m.bl.drop (A+1)) (n:=r.1) (asked:=o.s) (by omega) (h.ok.bl.rest A) (by rw [ec,he];exact gM)
    have pat:=placeM_at (m:=m) (l:=m.bl.take A++m.bl.drop (A+1)) (n:=r.1) (asked:=o.s) (by omega) (by rw [ec];omega)
    rw [F49.good p1]
    simp only [Qs,List.length_cons,List.length_nil,if_true,Nat.zero_add,Nat.reduceAdd]
    generalize hQ:placeM m (m.bl.take A++m.bl.drop (A+1)) r.1 o.s=Q at *
    by_cases hq:Q.2.2=0
    · obtain ⟨c3,b3,q3,lv3,lv4,a3,a4,ml⟩:=good hq
      obtain ⟨k1',k2',k3',k4'⟩:=pl hq
      have gml:(goneS s m.bl[A] A kk q tid sid).mem.length=s.mem.length:=rfl
      rw [gml] at ml a4
      rw [if_pos hq,condN_neg hq,guardK_of (nb0 h.raw.h0)]
      have m17:G3.ld hid 17=some (.sl 1 s3.mmi 0 s3.mem.length):=by rw [p2.ld];rfl
      obtain ⟨b,eb⟩:∃ b:Nat,Q.2.1=(b:Int):=⟨Q.2.1.toNat,by omega⟩
      rw [eb] at a3 a4 ⊢
      simp only [m17,Qs,Int.toNat_natCast]
      rw [guardD_of (by omega),if_neg (by omega)]
      have hml:s.mem.length-b≥n:=by omega
      have hmin:min n (s3.mem.length-b)=n:=by omega
      rw [hmin]
      have ld3:=sx3.1.lds (k:=1) xl.symm
      rw [if_neg (by omega)] at ld3
      rw [ld3]
      simp only [Qs]
      obtain ⟨G4,e4,h4,f4⟩:=p2.wr (a:=b) (new:=(s.mem.drop a).take n) (by rw [xl];omega)
      rw [Nat.zero_add,e4]
      simp only [Qs]
      rw [F17.J24_eq]
      have hm3:HM G3 hid s3 e l u Q.1:=⟨p2,c3,b3,q3,lv3.symm,k1'⟩
      have eX:s3.X hid=s.X hid:=p4
      have hfin:=hm3.setMem (mem':=s3.mem.take b++(s.mem.drop a).take n++s3.mem.drop (b+((s.mem.drop a).take n).length)) (by simp only [List.length_append,List.length_take,List.length_drop];omega) h4
      refine ⟨G4,{ s3 with mem:=s3.mem.take b++(s.mem.drop a).take n++s3.mem.drop (b+((s.mem.drop a).take n).length) },by rw [hq],?_,frA.trans (by rw [← eX];exact f4),eX⟩
      have e5:((b:Int)+min r.1 m.bl[A].ch).toNat=b+((s.mem.drop a).take n).length:=by rw [xl,en2];omega
      dsimp only
      rw [e5,en2,Int.toNat_natCast,q3.mem,h.eq.mem]
      exact hfin
    · have:=bad hq
      subst this
      have eng3:EngR (s.X hid) G3 s.tid s.sid s.C s.sz s.g s.ms:=h1.raw.eng.fr fr3 h1.raw.w
      have zz:=g5.sm g4 gl (by have:=gM;omega)
      obtain ⟨G4,b1,b2,b3⟩:=F46.sp p2 zz (a:=m.bl[A].at_) (ch:=m.bl[A].ch) (asked:=m.bl[A].asked) (by omega) (by omega) (g:=s.g) (ms:=s.ms) (tid:=s.tid) (sid:=s.sid) eng3
      rw [if_neg hq,condN_pos hq]
      have b1':CW F46.id [.c (.ptr hid 0),.agg [.int .i64 (a:Int),.int .i64 m.bl[A].ch,.int .i64 m.bl[A].asked],.agg [.int .i64 s.c.G,.sl 2 s.tid 0 s.C,.sl 2 s.sid 0 s.ms.length]] G3=some ([],G4):=by rw [← ea];exact b1
      rw [b1']
      simp only [Qs]
      have at0:=pat hq
      rw [at0]
      refine ⟨G4,_,rfl,⟨b2,⟨h.cf.tp,h.cf.C,h.cf.so,h.cf.sz,h.cf.mem,h.cf.on,?_,h.cf.mm⟩,?_,⟨h.eq.c,h.eq.peak,h.eq.mark,h.eq.on,h.eq.mem⟩,?_,h.ok⟩,frA.trans b3,rfl⟩
      · show (metQ (metQ s.met _ _ (-1)) _ _ 1).length=_
        rw [metQ_len,metQ_len];exact h.cf.met
      · exact h.bl.again h.cf hA rfl rfl rfl rfl rfl rfl
      · show m.live=s.live-m.bl[A].ch+m.bl[A].ch
        omega
end Go.Proofs.D.S
