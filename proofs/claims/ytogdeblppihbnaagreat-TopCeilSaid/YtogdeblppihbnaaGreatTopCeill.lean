/- Texts of the proof (SpRel5, SpRel6, DSame, DFail, DInvM, LawTopCeil); no condition. -/
import Derived.Test.YtogdeblppihbnaaGreatTopCeilk
import Derived.Test.YtogdeblppihbnaaGreatTopCeilj
set_option linter.unusedSimpArgs false
set_option linter.unusedVariables false
/- A heap and its model: every call. -/
set_option linter.unusedVariables false
set_option linter.unusedSimpArgs false
namespace Go.Proofs.D.S
open Go Go.RowKit
variable {G G' G0 G1:GH} {hid:Nat} {s:HS} {e l u:Nat} {bl:List Blk} {m:Mod}
theorem F69.blk (h0:1≤hid) {o:OpV} (hk:4≤o.k∧o.k≤8) {x:AnsV} (k:CW F32.id [.c (.ptr hid 0),.agg (eOp o)] G=some ([.agg (eAns x)],G')) :
    CW F69.id [.c (.ptr hid 0),.agg (eOp o)] G=some ([.agg (eAns x)],G'):=by
  have k2:∀ t:Bool,t=true→F69.J56 machW CW hid 0 o.k t o.k o.p o.s o.a o.n o.b 0 0 0 0 0 0 0 0 G=some ([.agg (eAns x)],G'):=by
    rintro t rfl
    rw [F69.J56_eq,q_ct,k]
    simp only [Qs,List.length_cons,List.length_nil,if_true,Nat.zero_add,Nat.reduceAdd]
  rw [F69.cw]
  unfold F69.f
  rw [nbf h0,q_xf,q_cf,condD_neg (by omega),condD_neg (by omega),condD_neg (by omega)]
  by_cases k4:o.k=4
  · rw [condD_pos k4];exact k2 _ (decide_eq_true k4)
  rw [condD_neg k4]
  by_cases k5:o.k=5
  · rw [condD_pos k5];exact k2 _ (decide_eq_true k5)
  rw [condD_neg k5]
  by_cases k6:o.k=6
  · rw [condD_pos k6];exact k2 _ (decide_eq_true k6)
  rw [condD_neg k6]
  by_cases k7:o.k=7
  · rw [condD_pos k7];exact k2 _ (decide_eq_true k7)
  rw [condD_neg k7]
  exact k2 _ (decide_eq_true (by omega))
theorem block_M (h:HM G hid s e l u m) {o:OpV} (hk:4≤o.k∧o.k≤8) {A:Nat} (hA:A<m.bl.length) (hp:findB m.bl o.p=some A) :
    HDo G hid s e l u (CW F32.id [.c (.ptr hid 0),.agg (eOp o)] G) (ofM m o A m.bl[A]):=by
  have f:=h.cf.tp.ok.facts
  have hmem:=h.cf.mem
  have hb:=h.ok.bl _ (List.getElem_mem hA)
  have hm0:mapGet s.es (kv o.p)=some (vB m.bl[A]):=by rw [h.bl.get,hp,Option.bind_some,List.getElem?_eq_getElem hA];rfl
  have hm:mapGet s.es (kv o.p)=some (bv m.bl[A].at_ m.bl[A].ch m.bl[A].asked):=hm0
  rw [h.eq.c,← hmem] at hb
  obtain ⟨k,p,sz,a,n,b⟩:=o
  dsimp only at hk hm hp ⊢
  by_cases k4:k=4
  · subst k4
    obtain ⟨G',s',e1,x⟩:=realloc_M h (o:=⟨4,p,sz,a,n,b⟩) rfl hA
    exact ⟨G',s',F32.realloc h.raw hm e1,x⟩
  by_cases k5:k=5
  · subst k5
    obtain ⟨kk,q,tid,sid,G',g1,g2,g3,g4,g5⟩:=gone_M h.raw h.cf h.bl (by rw [← h.live];exact h.ok.live) (by rw [← h.ok.live,← h.eq.c];exact h.ok.lim) hA
    refine ⟨G',goneS s m.bl[A] A kk q tid sid,?_,⟨g2,g4,?_,?_,?_,(ofM_ok h.ok ⟨5,p,sz,a,n,b⟩ hA).1⟩,g3,rfl⟩
    · rw [F32.free h.raw hm g1];unfold ofM;rfl
    · have:(ofM m ⟨5,p,sz,a,n,b⟩ A m.bl[A]).1.bl=m.bl.take A++m.bl.drop (A+1):=by unfold ofM;rfl
      rw [this];exact g5
    · have:(ofM m ⟨5,p,sz,a,n,b⟩ A m.bl[A]).1 = { m with bl:=m.bl.take A++m.bl.drop (A+1),live:=m.live-m.bl[A].ch }:=by unfold ofM;rfl
      rw [this];exact ⟨h.eq.c,h.eq.peak,h.eq.mark,h.eq.on,h.eq.mem⟩
    · have:(ofM m ⟨5,p,sz,a,n,b⟩ A m.bl[A]).1 = { m with bl:=m.bl.take A++m.bl.drop (A+1),live:=m.live-m.bl[A].ch }:=by unfold ofM;rfl
      rw [this];show m.live-m.bl[A].ch=s.live-m.bl[A].ch;rw [h.live]
  by_cases k6:k=6
  · subst k6
    have:ofM m ⟨6,p,sz,a,n,b⟩ A m.bl[A]=(m,⟨0,0,m.bl[A].ch,0,0,0,0,0⟩):=by unfold ofM;rfl
    rw [this]
    exact ⟨G,s,F32.usable h.raw hm,h,FrX.refl,rfl⟩
  have k78:k=7∨k=8:=by omega
  by_cases hn:n<0∨n≥m.bl[A].ch
  · have:ofM m ⟨k,p,sz,a,n,b⟩ A m.bl[A]=(m,errA 9):=by
      unfold ofM
      dsimp only
      rw [if_neg k4,if_neg k5,if_neg k6,if_pos hn]
    rw [this]
    exact ⟨G,s,F32.bound h.raw k78 hm hn,h,FrX.refl,rfl⟩
  obtain ⟨at_,ea⟩:∃ at_:Nat,m.bl[A].at_=(at_:Int):=⟨m.bl[A].at_.toNat,by omega⟩
  obtain ⟨nn,en⟩:∃ nn:Nat,n=(nn:Int):=⟨n.toNat,by omega⟩
  subst en
  rw [ea] at hm
  have hi:at_+nn<s.mem.length:=by omega
  have et:((at_:Int)+(nn:Int)).toNat=at_+nn:=by omega
  by_cases k7:k=7
  · subst k7
    have:ofM m ⟨7,p,sz,a,(nn:Int),b⟩ A m.bl[A]=(m,⟨0,0,0,s.mem[at_+nn],0,0,0,0⟩):=by
      unfold ofM
      dsimp only
      rw [if_neg k4,if_neg k5,if_neg k6,if_neg hn,if_pos rfl,ea,et,h.eq.mem,getD_lt _ hi]
    rw [this]
    exact ⟨G,s,F32.load h.raw hm (by omega) hi (by omega),h,FrX.refl,rfl⟩
  · have k8:k=8:=by omega
    subst k8
    obtain ⟨G',e1,h1,f1⟩:=F32.store h.raw hm (p:=p) (sz:=sz) (a:=a) (b:=b) (n:=nn) (by omega) hi (by omega)
    have:ofM m ⟨8,p,sz,a,(nn:Int),b⟩ A m.bl[A]=({ m with mem:=s.mem.set (at_+nn) b },errA 0):=by
      unfold ofM
      dsimp only
      rw [if_neg k4,if_neg k5,if_neg k6,if_neg hn,if_neg k7,ea,et,h.eq.mem]
    rw [this]
    exact ⟨G',_,e1,h.setMem (by simp) h1,f1,rfl⟩
theorem F69.sp (h:HM G hid s e l u m) (o:OpV) (hs:R64 o.s) (ha:R64 o.a) (hn:R64 o.n):HDo G hid s e l u (CW F69.id [.c (.ptr hid 0),.agg (eOp o)] G) (doM m o):=by
  have h0:=h.raw.h0
  have hol:=h.cf.onl
  unfold doM
  by_cases k1:o.k=1
  · rw [if_pos (.inl k1)]
    obtain ⟨G',s',e1,x⟩:=aligned_M h (o:=o) (al:=1) (by omega) (by rw [if_neg (by omega)]) (by unfold R64;omega)
    refine ⟨G',s',?_,x⟩
    rw [F69.cw]
    unfold F69.f
    rw [nbf h0,q_xf,q_cf,condD_pos k1,e1]
    simp only [Qs,List.length_cons,List.length_nil,if_true,Nat.zero_add,Nat.reduceAdd]
  by_cases k2:o.k=2
  · rw [if_pos (.inr (.inl k2))]
    obtain ⟨G',s',e1,x⟩:=calloc_M h k2 hn hs
    refine ⟨G',s',?_,x⟩
    rw [F69.cw]
    unfold F69.f
    rw [nbf h0,q_xf,q_cf,condD_neg k1,condD_pos k2,e1]
    simp only [Qs,List.length_cons,List.length_nil,if_true,Nat.zero_add,Nat.reduceAdd]
  by_cases k3:o.k=3
  · rw [if_pos (.inr (.inr k3))]
    obtain ⟨G',s',e1,x⟩:=aligned_M h (o:=o) (al:=o.a) (by omega) (by rw [if_pos k3]) ha
    refine ⟨G',s',?_,x⟩
    rw [F69.cw]
    unfold F69.f
    rw [nbf h0,q_xf,q_cf,condD_neg k1,condD_neg k2,condD_pos k3,e1]
    simp only [Qs,List.length_cons,List.length_nil,if_true,Nat.zero_add,Nat.reduceAdd]
  rw [if_neg (by omega)]
  by_cases k9:o.k=9
  · rw [if_pos k9]
    obtain ⟨k,p,sz,a,n,b⟩:=o
    dsimp only at k9
    subst k9
    obtain ⟨oni,G',e1,h1,f1⟩:=F69.trim h.raw (by omega) h.cf.met (p:=p) (sz:=sz) (a:=a) (n:=n) (b:=b)
    have hpg:=h.bl.pages
    rw [h.cf.met] at hpg
    rw [hpg] at e1 h1
    have b1:=h.ok.bl
    have b2:=h.ok.lim
    have b3:=h.ok.mem
    rw [h.eq.c] at b1 b2 b3
    rw [h.eq.c,h.eq.on]
    have tl:(trimP s.on (metP s.c.Pg s.on.length m.bl)).length=s.on.length:=by unfold trimP;rw [tab_len]
    refine ⟨G',{ s with oni:=oni,on:=trimP s.on (metP s.c.Pg s.on.length m.bl) },e1,⟨h1,⟨h.cf.tp,h.cf.C,h.cf.so,h.cf.sz,h.cf.mem,?_,?_,h.cf.mm⟩,⟨h.bl.ms,h.bl.es,h.bl.met,h.bl.g,h.bl.srt,h.bl.bin⟩,⟨rfl,h.eq.peak,h.eq.mark,rfl,h.eq.mem⟩,h.live,⟨h.cf.tp.ok,b1,h.ok.live,b2,h.ok.peak,h.ok.mark,?_,b3⟩⟩,f1,rfl⟩
    · show (((trimP s.on _).length:Nat):Int)*s.c.Pg=_
      rw [tl];exact h.cf.on
    · show s.met.length=(trimP s.on _).length
      rw [tl];exact h.cf.met
    · show (((trimP s.on _).length:Nat):Int)*s.c.Pg=s.c.H
      rw [tl];exact h.cf.on
  rw [if_neg k9]
  by_cases k10:o.k=10
  · rw [if_pos k10]
    obtain ⟨k,p,sz,a,n,b⟩:=o
    dsimp only at k10
    subst k10
    refine ⟨G,s,?_,h,FrX.refl,rfl⟩
    rw [F69.figures h.raw (by omega),h.live,h.eq.peak,h.eq.mark,h.eq.on]
  rw [if_neg k10]
  by_cases k48:4≤o.k∧o.k≤8
  · rw [if_pos (by omega)]
    cases hf:findB m.bl o.p with
    | none =>
      have hm:mapGet s.es (kv o.p)=none:=by rw [h.bl.get,hf];rfl
      exact ⟨G,s,F69.blk h0 k48 (F32.none h.raw hm),h,FrX.refl,rfl⟩
    | some A =>
      obtain ⟨hA,_⟩:=findB_lt hf
      dsimp only
      rw [getD_lt _ hA]
      obtain ⟨G',s',e1,x⟩:=block_M h k48 hA hf
      exact ⟨G',s',F69.blk h0 k48 e1,x⟩
  · rw [if_neg (by omega)]
    refine ⟨G,s,?_,h,FrX.refl,rfl⟩
    rw [F69.cw]
    unfold F69.f
    rw [nbf h0,q_xf,q_cf,condD_neg k1,condD_neg k2,condD_neg k3,condD_neg (by omega),condD_neg (by omega),condD_neg (by omega),condD_neg (by omega),F69.J56_eq,decide_eq_false (show ¬ o.k=8 by omega),q_cf,condD_neg k9,condD_neg k10]
    rfl
end Go.Proofs.D.S
/- A heap begins;its blocks are told. -/
set_option linter.unusedVariables false
set_option linter.unusedSimpArgs false
namespace Go.Proofs.D.S
open Go Go.RowKit
variable {G G' G0 G1:GH} {hid:Nat} {s:HS} {e l u:Nat} {bl:List Blk} {m:Mod}
theorem F29.sp (h:HM G hid s e l u m):∃ id G',CW F29.id [.c (.ptr hid 0)] G=some ([.c (.sl 3 id 0 m.bl.length)],G')∧Hp G G' [rowE eBlk id m.bl]:=by
  have hm:(1000000001:Nat)≤most:=by unfold most;decide
  have hlen:m.bl.length≤100000:=by
    have:=h.raw.eng.len
    rw [h.bl.ms,List.length_map] at this
    exact this
  have hms:s.ms.length=m.bl.length:=by rw [h.bl.ms,List.length_map]
  have l10:G.ld hid 10=some (.sl 2 s.sid 0 m.bl.length):=by rw [h.raw.ld,← hms];rfl
  have mget:∀ i (hi:i<s.ms.length),s.ms[i].1=(m.bl[i]'(by omega)).at_:=by
    have:∀ ms (h:ms=m.bl.map (mkB e)) i (hi:i<ms.length) (h2:i<m.bl.length),ms[i].1=(m.bl[i]'h2).at_:=by rintro ms rfl i hi h2;simp [mkB]
    intro i hi
    exact this _ h.bl.ms i hi (by omega)
  have lp:∀ (d i:Nat) (oid:Nat) (G2:GH),i+d=m.bl.length→Hp G G2 [rowE eBlk oid (m.bl.take i)] →
      ∃ id G',F29.L21 machW CW hid 0 oid 0 i s.sid 0 m.bl.length (m.bl.length:Int) (i:Int) G2=some ([.c (.sl 3 id 0 m.bl.length)],G')∧Hp G G' [rowE eBlk id m.bl]:=by
    intro d
    induction d with
    | zero =>
      intro i oid G2 hi k
      have:i=m.bl.length:=by omega
      subst this
      rw [F29.L21_eq,condD_neg (by omega)]
      rw [List.take_length] at k
      exact ⟨oid,G2,rfl,k⟩
    | succ d ih =>
      intro i oid G2 hi k
      have hib:i<m.bl.length:=by omega
      have r2:=h.raw.keep k
      have sd2:=r2.eng.sd.1
      have g0:=sd2.ld i 0 (by omega) (by omega)
      have g1:=sd2.ld i 1 (by omega) (by omega)
      simp only [Nat.zero_add,Nat.add_zero] at g0 g1
      have l11:G2.ld hid 11=some (.map s.mid):=by rw [r2.ld];rfl
      obtain ⟨A,hA,a1,a2⟩:=findB_mem h.bl.srt h.bl.ch1 (List.getElem_mem hib)
      have hg:mapGet s.es (kv m.bl[i].at_)=some (vB m.bl[i]):=by rw [h.bl.get,a1,Option.bind_some,List.getElem?_eq_getElem hA,a2];rfl
      have hg':mapGet s.es (.agg [.int .i64 m.bl[i].at_])=some (.agg [.int .i64 m.bl[i].at_,.int .i64 m.bl[i].ch,.int .i64 m.bl[i].asked]):=hg
      obtain ⟨oid',G3,h3,hoid,fo,key⟩:=k.app1F (S:=Res) m.bl[i] (n:=i) (by simp;omega) (by simp;omega)
      rw [F29.L21_eq,condD_pos (by omega),guardD_of (by omega)]
      simp only [Nat.zero_add,Nat.add_zero,Int.toNat_natCast,g0,g1,eMk,List.getElem?_cons_zero,List.getElem?_cons_succ,Qs]
      rw [guardK_of (nb0 h.raw.h0),l11]
      simp only [Qs]
      rw [r2.ents0,q_bs,mget i (by omega),hg']
      simp only [Option.getD_some,Qs,List.length_cons,List.length_nil,if_true,Nat.zero_add,Nat.reduceAdd]
      simp only [eBlk] at key
      rw [key,i64w,wrap_id (by omega) (by omega),show (i:Int)+1=((i+1:Nat):Int) by omega]
      rw [show m.bl.take i++[m.bl[i]]=m.bl.take (i+1) by rw [List.take_add_one,List.getElem?_eq_getElem hib];rfl] at h3
      exact ih (i+1) oid' G3 (by omega) h3
  rw [F29.cw]
  unfold F29.f
  rw [nbf h.raw.h0,q_xf,q_cf,q_nf,q_gk]
  simp only [Nat.zero_add,Nat.reduceAdd,l10,Qs]
  exact lp m.bl.length 0 0 G (by omega) ((Hp.refl h.raw.w).nil0 (e:=eBlk))
def szN (l u k:Nat):Nat:=(2+l)*u*2 ^ (l-k)
theorem Cf.Tp.szH {c:Cf} (tp:c.Tp e l u):c.H=((2 ^ e*szN l u 0:Nat):Int):=by
  have h1:=tp.ceil (k:=l) (Nat.le_refl _)
  have h2:=(tp.ok.ceil (k:=(l:Int)) (by omega) (by rw [tp.ex.hL];omega)).1
  have h3:c.H=c.M+c.L*(c.M / 2):=tp.ok.hH
  rw [tp.ex.hL,← h2,h1] at h3
  rw [h3]
  congr 1
  unfold tP szN
  rw [Nat.sub_self,Nat.pow_zero,Nat.mul_one,Nat.sub_zero,Nat.pow_add,Nat.mul_comm u,Nat.mul_comm (2 ^ e) (2 ^ l),← Nat.mul_assoc,Nat.mul_comm]
theorem szN_ok {c:Cf} (tp:c.Tp e l u):SzOk (l+1) (szN l u)∧∀ k,k<l+1→1≤szN l u k:=by
  have f:=tp.ok.facts
  have hl:l≤16:=by have:=tp.ex.hgl;omega
  have hs:=tp.szH
  have z:=Nat.two_pow_pos e
  have h0:szN l u 0≤2 ^ e*szN l u 0:=Nat.le_mul_of_pos_left _ z
  refine ⟨⟨⟨by omega,by omega⟩,fun k hk=>?_,fun k hk=>?_,by omega⟩,fun k hk=>?_⟩
  · unfold szN
    rw [show l-k=(l-(k+1))+1 by omega,Nat.pow_succ,← Nat.mul_assoc,Nat.mul_comm]
  · unfold szN
    rw [Nat.mul_assoc,← Nat.pow_add,show l-k+k=l-0 by omega]
  · unfold szN
    exact Nat.mul_pos (Nat.mul_pos (by omega) tp.hu) (Nat.two_pow_pos _)
theorem F107.sp (w:G.wf) {r:Rw} (hr:(ofC r).2=0):∃ (hid:Nat) (s:HS) (e l u:Nat) (G':GH),CW F107.id [.agg (rwC r)] G=some ([.c (.ptr hid 0),.c (.int .i64 0)],G')∧Hp G G' []∧HM G' hid s e l u (newM (ofC r).1)∧∀ x∈s.X hid,G.next≤x:=by
  have hmost:(1000000001:Nat)≤most:=by unfold most;decide
  have ok:=ofC_ok hr
  obtain ⟨G1,e1,h1⟩:=F118.sp r w
  rw [hr] at e1
  generalize (ofC r).1=c at *
  have f:=ok.facts
  obtain ⟨e,l,u,tp⟩:=ok.tp
  obtain ⟨np,hnp⟩:=ok.pages
  have eHP:c.H / c.Pg=(np:Int):=by rw [hnp,Int.mul_ediv_cancel _ (by omega)]
  obtain ⟨so,hpos⟩:=szN_ok tp
  have hsH:=tp.szH
  have hl16:l≤16:=by have:=tp.ex.hgl;omega
  have ze:=Nat.two_pow_pos e
  have hnpl:(np:Int)≤c.H:=by
    have:=Int.mul_le_mul_of_nonneg_left (show (1:Int)≤c.Pg by omega) (show (0:Int)≤(np:Int) by omega)
    rw [hnp];omega
  have q1:binD .quo .i64 c.H c.Pg=some (np:Int):=by
    rw [binD_quo (by omega),Int.tdiv_eq_ediv_of_nonneg (by omega),eHP,i64w,wrap_id (by omega) (by omega)]
  have q2:binD .quo .i64 c.H c.G=some ((szN l u 0:Nat):Int):=by
    have hs0:szN l u 0≤65536:=so.top
    rw [binD_quo (by omega),Int.tdiv_eq_ediv_of_nonneg (by omega),hsH,tp.ex.hG,Int.natCast_mul,Int.mul_ediv_cancel_left _ (by omega),i64w,wrap_id (by omega) (by omega)]
  rw [F107.cw]
  unfold F107.f
  rw [e1]
  simp only [Qs,List.length_cons,List.length_nil,if_true,Nat.zero_add,Nat.reduceAdd]
  rw [condN_neg trivial,q1]
  simp only [Qs]
  rw [guardD_of (by omega),guardD_of (by omega),guardD_of (by omega),q2]
  simp only [Qs]
  have hl1:IntKind.i64.wrap (c.L+1)=((l+1:Nat):Int):=by rw [i64w,wrap_id (by omega) (by omega),tp.ex.hL];rfl
  obtain ⟨M,eM⟩:∃ M:Nat,c.H=(M:Int):=⟨c.H.toNat,by omega⟩
  have hMs:M=2 ^ e*szN l u 0:=by rw [eM] at hsH;exact_mod_cast hsH
  rw [hl1,Int.toNat_natCast,eM,Int.toNat_natCast]
  rw [show [Cell.int IntKind.i64 0]=eI 0 from rfl,reps_tab (e:=eI) np 0,show [Cell.bool false]=eB false from rfl,reps_tab (e:=eB) np false,show [Cell.int IntKind.u8 0]=eU8 0 from rfl,reps_tab (e:=eU8) M 0]
  simp only [GH.next_alloc]
  have hw:=h1.wf.2
  have hn:=h1.nx
  have k1:=h1.alloc (.map kA [])
  have k2:=k1.alloc (.row (cells eI (tab np fun _=>0)) false)
  have k3:=k2.alloc (.row (cells eB (tab np fun _=>false)) false)
  have k4:=k3.alloc (.row (cells eU8 (tab M fun _=>0)) false)
  obtain ⟨row,erow⟩:∃ row:List Cell,row=[Cell.int .i64 c.G,.int .i64 c.N,.int .i64 c.M,.int .i64 c.L,.int .i64 c.Pg,.int .i64 c.P,.int .i64 (M:Int),.int .i64 c.Sd,.int .i64 0,.sl 2 0 0 0,.sl 2 0 0 0,.map G1.next,.int .i64 0,.int .i64 0,.int .i64 0,.sl 1 (G1.next+1) 0 np,.sl 1 (G1.next+1+1) 0 np,.sl 1 (G1.next+1+1+1) 0 M]:=⟨_,rfl⟩
  rw [← erow]
  have k5:=k4.alloc (.row row false)
  simp only [GH.next_alloc] at k2 k3 k4 k5
  generalize hG5:((((G1.alloc (.map kA [])).alloc (.row (cells eI (tab np fun _=>0)) false)).alloc (.row (cells eB (tab np fun _=>false)) false)).alloc (.row (cells eU8 (tab M fun _=>0)) false)).alloc (.row row false)=G5 at k5 ⊢
  have hnx5:G5.next=G1.next+5:=by rw [← hG5];rfl
  generalize G1.next=n at *
  obtain ⟨X,eX⟩:∃ X:List Nat,X=[n+1+1+1+1,n,n+1,n+1+1+1]:=⟨_,rfl⟩
  have hX:Ids G5 X:=fun x hx=>by rw [eX] at hx;simp only [List.mem_cons,List.not_mem_nil,or_false] at hx;omega
  obtain ⟨tid,G6,p1,p2,p3⟩:=F92.sp k5.wf so (by omega) hpos hX (Gg:=2 ^ e) rfl (by rw [← hMs];omega)
  have k6:=k5.trans0 p2
  rw [tp.ex.hG,p1]
  simp only [Qs,List.length_cons,List.length_nil,if_true,Nat.zero_add,Nat.reduceAdd]
  rw [guardK_of (nb0 (by omega))]
  obtain ⟨s,es⟩:∃ s:HS,s = ⟨c,tid,0,n,n+1,n+1+1,n+1+1+1,l+1,szN l u,fun q=>decide (szN l u 0≤q),[],[],0,0,0,tab np fun _=>0,tab np fun _=>false,tab M fun _=>0⟩:=⟨_,rfl⟩
  have g6:G6.get (n+1+1+1+1)=some (.row row false):=k6.get (List.mem_cons_self ..) (by omega)
  have sts:G6.sts (n+1+1+1+1) 8 [.int .i64 ((2 ^ e:Nat):Int),.sl 2 tid 0 (l+1),.sl 2 0 0 0]=some (G6.set (n+1+1+1+1) (some (.row s.cells false))):=by
    unfold GH.sts
    rw [own_row g6,Option.bind_some,if_pos (by rw [erow];simp)]
    congr 4
    rw [erow,es]
    unfold HS.cells cfC splice
    simp only [tab_len,List.length_nil,eM,tp.ex.hG]
    rfl
  have eXs:s.X (n+1+1+1+1)=X:=by rw [es,eX];rfl
  have fr:FrX X G6 (G6.set (n+1+1+1+1) (some (.row s.cells false))):=FrX.set (by rw [eX];simp)
  refine ⟨n+1+1+1+1,s,e,l,u,G6.set (n+1+1+1+1) (some (.row s.cells false)),?_,k6.nil.set0 (by omega) g6,⟨⟨wf_set' k6.wf g6,by rw [GH.get_set,if_pos rfl],?_,?_,?_,by omega,?_,?_,?_,?_,?_⟩,⟨?_,?_,?_,?_,?_,?_,?_,?_⟩,⟨?_,?_,?_,?_,?_,?_⟩,⟨?_,?_,?_,?_,?_⟩,?_,newM_ok ok⟩,?_⟩
  · rw [sts];rfl
  · rw [GH.get_set,es,if_neg (show ¬ n=n+1+1+1+1 by omega)];exact k6.get (id:=n) (by simp) (by omega)
  · rw [GH.get_set,es,if_neg (show ¬ n+1=n+1+1+1+1 by omega)];exact k6.get (id:=n+1) (by simp) (by omega)
  · rw [GH.get_set,es,if_neg (show ¬ n+1+1+1=n+1+1+1+1 by omega)];exact k6.get (id:=n+1+1+1) (by simp) (by omega)
  · rw [es];show n≠0;omega
  · rw [es];show _≠n∧_≠n+1∧_≠n+1+1+1∧n≠n+1∧n≠n+1+1+1∧n+1≠n+1+1+1;omega
  · rw [eXs,es]
    refine Sx.fr (G:=G6) ⟨k6.sl (e:=eB) (by simp),.inr ?_⟩ (by rw [es] at fr;exact fr) k6.wf
    rw [eX];simp only [List.mem_cons,List.not_mem_nil,or_false];omega
  · rw [es];show n+1+1≠0;omega
  · rw [eXs]
    have:=p3.fr fr p2.wf
    rw [es] at this ⊢
    exact this
  · rw [es];exact tp
  · rw [es]
  · rw [es];exact so
  · rw [es];show 2 ^ e*szN l u 0=(tab M fun _=>(0:Int)).length;rw [tab_len,hMs]
  · rw [es];show (((tab M fun _=>(0:Int)).length:Nat):Int)=c.H;rw [tab_len,eM]
  · rw [es];show (((tab np fun _=>false).length:Nat):Int)*c.Pg=c.H;rw [tab_len,hnp]
  · rw [es];show (tab np fun _=>(0:Int)).length=(tab np fun _=>false).length;rw [tab_len,tab_len]
  · rw [es];show n+1+1+1≠0;omega
  · rw [es];rfl
  · rw [es];exact ⟨[],rfl,.refl _⟩
  · rw [es];show (tab np fun _=>(0:Int))=tab (tab np fun _=>(0:Int)).length _;rw [tab_len];rfl
  · intro q;rw [es];show decide _=(decide _||false);rw [Bool.or_false]
  · exact List.Pairwise.nil
  · intro b hb;cases hb
  · rw [es];rfl
  · rw [es];rfl
  · rw [es];rfl
  · rw [es];show (tab (c.H / c.Pg).toNat fun _=>false)=tab np fun _=>false;rw [eHP,Int.toNat_natCast]
  · rw [es];show (tab c.H.toNat fun _=>(0:Int))=tab M fun _=>0;rw [eM,Int.toNat_natCast]
  · rw [es];rfl
  · intro x hx
    rw [eXs,eX] at hx
    simp only [List.mem_cons,List.not_mem_nil,or_false] at hx
    omega
end Go.Proofs.D.S
/- What may not differ,plainly: the program's own reader. -/
set_option linter.unusedVariables false
namespace Go.Proofs.D.S
open Go Go.RowKit
section
variable {κ β γ:Type} [DecidableEq κ]
variable {f:β→γ}
end
structure PB where
  (ch no:Int)
  tl:List Int
end Go.Proofs.D.S
/- Calls that fail change nothing. -/
set_option linter.unusedVariables false
namespace Go.Proofs.D.S
open Go Go.RowKit
theorem giveM_fail (m:Mod) (o:OpV) (h:(giveM m o).2.err≠0):(giveM m o).1=m:=by
  unfold giveM at h ⊢
  dsimp only at h ⊢
  generalize (if o.k=2 then manyS m.c.G m.c.N m.c.M m.live o.n o.s else newS m.c.G m.c.N m.c.M m.live o.s (if o.k=3 then o.a else 1))=r at h ⊢
  generalize (if o.k=2 then wrap64 (o.n*o.s) else o.s)=s at h ⊢
  by_cases h1:r.2=0
  · rw [if_pos h1] at h ⊢
    by_cases h2:(placeM m m.bl r.1 s).2.2=0
    · rw [if_pos h2] at h;exact absurd rfl h
    · rw [if_neg h2]
  · rw [if_neg h1]
theorem ofM_fail (m:Mod) (o:OpV) (A:Nat) (b:Blk) (h:(ofM m o A b).2.err≠0):(ofM m o A b).1=m:=by
  unfold ofM at h ⊢
  dsimp only at h ⊢
  by_cases h4:o.k=4
  · rw [if_pos h4] at h ⊢
    by_cases h1:(newS m.c.G m.c.N m.c.M (m.live-b.ch) o.s 1).2=0
    · rw [if_pos h1] at h ⊢
      by_cases h2:(placeM m (m.bl.take A++m.bl.drop (A+1)) (newS m.c.G m.c.N m.c.M (m.live-b.ch) o.s 1).1 o.s).2.2=0
      · rw [if_pos h2] at h;exact absurd rfl h
      · rw [if_neg h2]
    · rw [if_neg h1]
  · rw [if_neg h4] at h ⊢
    by_cases h5:o.k=5
    · rw [if_pos h5] at h;exact absurd rfl h
    · rw [if_neg h5] at h ⊢
      by_cases h6:o.k=6
      · rw [if_pos h6]
      · rw [if_neg h6] at h ⊢
        by_cases h7:o.n<0∨o.n≥b.ch
        · rw [if_pos h7]
        · rw [if_neg h7] at h ⊢
          by_cases h8:o.k=7
          · rw [if_pos h8]
          · rw [if_neg h8] at h;exact absurd rfl h
theorem doM_fail (m:Mod) (o:OpV) (h:(doM m o).2.err≠0):(doM m o).1=m:=by
  unfold doM at h ⊢
  by_cases h1:o.k=1∨o.k=2∨o.k=3
  · rw [if_pos h1] at h ⊢;exact giveM_fail m o h
  · rw [if_neg h1] at h ⊢
    by_cases h9:o.k=9
    · rw [if_pos h9] at h;exact absurd rfl h
    · rw [if_neg h9] at h ⊢
      by_cases h10:o.k=10
      · rw [if_pos h10]
      · rw [if_neg h10] at h ⊢
        by_cases h4:o.k=4∨o.k=5∨o.k=6∨o.k=7∨o.k=8
        · rw [if_pos h4] at h ⊢
          cases e:findB m.bl o.p with
          | none=>rfl
          | some A=>rw [e] at h;exact ofM_fail m o A _ h
        · rw [if_neg h4]
end Go.Proofs.D.S
/- What a heap's figures are bounded by. -/
set_option linter.unusedVariables false
namespace Go.Proofs.D.S
open Go Go.RowKit
theorem cnt_mono:∀ {a b:List Bool},a.length=b.length→(∀ i:Nat,a.getD i false=true→b.getD i false=true)→cnt a≤cnt b
  | [],[],_,_=>Nat.le_refl _
  | x::a,y::b,hl,h=>by
    have ih:=cnt_mono (a:=a) (b:=b) (by simpa using hl) fun i hi=>by have:=h (i+1);simpa using this (by simpa using hi)
    have h0:=h 0
    simp only [List.getD_cons_zero] at h0
    unfold cnt
    cases x <;> cases y <;> simp_all <;> omega
  | [],_::_,hl,_=>by simp at hl
  | _::_,[],hl,_=>by simp at hl
theorem cnt_first:∀ {a:List Bool} {n:Nat},(∀ i:Nat,a.getD i false=true→i<n)→cnt a≤n
  | [],n,_=>Nat.zero_le _
  | x::a,0,h=>by
    have h0:=h 0
    have hx:x=false:=by cases x with
      | false=>rfl
      | true=>exact absurd (h0 rfl) (by omega)
    have:=cnt_first (a:=a) (n:=0) fun i hi=>absurd (h (i+1) (by simpa using hi)) (by omega)
    subst hx
    unfold cnt;simp;omega
  | x::a,n+1,h=>by
    have:=cnt_first (a:=a) (n:=n) fun i hi=>by have:=h (i+1) (by simpa using hi);omega
    unfold cnt
    cases x <;> simp <;> omega
structure Fig (m:Mod) (B:Int):Prop where
  lp:m.live≤m.peak
  pM:m.peak≤m.c.M
  mar:m.mark≤B
  pg:∀ i:Nat,m.on.getD i false=true→((i:Int)+1)*m.c.Pg≤B
  cp:(cnt m.on:Int)≤m.c.P
theorem Fig.mono {m:Mod} {B B':Int} (h:Fig m B) (hB:B≤B'):Fig m B':=⟨h.lp,h.pM,Int.le_trans h.mar hB,fun i hi=>Int.le_trans (h.pg i hi) hB,h.cp⟩
theorem tab_false {n i:Nat} {f:Nat→Bool} (h:(tab n f).getD i false=true):i<n∧f i=true:=by
  by_cases hi:i<n
  · rw [tab_getD _ hi] at h;exact ⟨hi,h⟩
  · rw [List.getD_eq_getElem?_getD,List.getElem?_eq_none (by rw [tab_len];omega)] at h;cases h
theorem Cf.Ok.ceilPg {c:Cf} (h:c.Ok) {k:Int} (h0:0≤k) (h1:k≤c.L):∃ x:Int,c.ceil k=x*c.Pg:=by
  have e:=(h.ceil h0 h1).1
  obtain ⟨⟨g,l,p,q,e1,e2,e3,e4,e5,e6,e7,e8,e9⟩,_⟩:=h
  have z:2 ^ max (g+l) p=2 ^ (max (g+l) p-p)*2 ^ p:=by rw [← Nat.pow_add];congr 1;omega
  have m2:c.M / 2=((q*2 ^ max (g+l) p:Nat):Int):=by
    rw [e7,Nat.pow_succ,← Nat.mul_assoc];omega
  have hM:c.M=2*(c.M / 2):=by rw [e7,Nat.pow_succ,← Nat.mul_assoc];omega
  refine ⟨(2+k)*((q*2 ^ (max (g+l) p-p):Nat):Int),?_⟩
  have:c.ceil k=(2+k)*(c.M / 2):=by rw [e,Int.add_mul];omega
  rw [this,m2,z,e4,← Nat.mul_assoc]
  push_cast
  simp only [Int.mul_assoc]
theorem commitP_on {on met on':List Bool} {f b mx:Int} {fr:List Int} (hl:met.length=on.length) (h:commitP on met f b mx=some (on',fr)) :
    (cnt on':Int)≤mx∧∀ i:Nat,on'.getD i false=true→on.getD i false=true∨(f≤(i:Int)∧(i:Int)<b):=by
  have hall:∀ i:Nat,(allP on f b).getD i false=true→on.getD i false=true∨(f≤(i:Int)∧(i:Int)<b):=by
    intro i hi
    unfold allP at hi
    obtain ⟨_,h2⟩:=tab_false hi
    rcases Bool.or_eq_true_iff.1 h2 with h3 | h3
    · exact .inl h3
    · unfold these at h3
      simp only [Bool.and_eq_true,decide_eq_true_eq] at h3
      exact .inr ⟨by omega,by omega⟩
  unfold commitP at h
  split at h
  · cases h
  · rename_i hn
    simp only [Option.some.injEq,Prod.mk.injEq] at h
    obtain ⟨rfl,_⟩:=h
    by_cases hc:(cnt (allP on f b):Int)>mx
    · rw [if_pos hc]
      constructor
      · have:cnt (tab on.length fun i=>(allP on f b).getD i false&&(needP met f b).getD i false)≤cnt (needP met f b):=by
          refine cnt_mono (by unfold needP;rw [tab_len,tab_len,hl]) fun i hi=>?_
          obtain ⟨_,h2⟩:=tab_false hi
          exact (Bool.and_eq_true_iff.1 h2).2
        omega
      · intro i hi
        obtain ⟨_,h2⟩:=tab_false hi
        exact hall i (Bool.and_eq_true_iff.1 h2).1
    · rw [if_neg hc]
      exact ⟨by omega,hall⟩
section
variable {g l u:Nat}
theorem placeM_fig {m:Mod} {B:Int} (tp:m.c.Tp g l u) (ok:m.Ok) (fg:Fig m B) {bl:List Blk} (hb:∀ b∈bl,Bin g l u b) {k:Nat} (hk:k≤l) (hs:chSum bl+((2 ^ (g+k):Nat):Int)≤m.c.M) {asked:Int} (hB:m.c.ceil (k:Int)≤B)
    (h:(placeM m bl ((2 ^ (g+k):Nat):Int) asked).2.2=0):Fig (placeM m bl ((2 ^ (g+k):Nat):Int) asked).1 B:=by
  have z:=Nat.two_pow_pos (g+k)
  have f:=ok.c.facts
  obtain ⟨j,hj1,hj2,_⟩:=room tp hk hb hs
  rcases placeM_cases m bl (n:=((2 ^ (g+k):Nat):Int)) (asked:=asked) (by omega) (by omega) with ⟨_,e⟩ | e | ⟨j',on',fr,h1,h2,h3,h4,ho,hc,e⟩
  · rw [e] at h;exact absurd h (by show ¬ (7:Int)=0;decide)
  · rw [e] at h;exact absurd h (by show ¬ (6:Int)=0;decide)
  · rw [hj1] at h1
    cases h1
    rw [e]
    have hend:(j:Int)*((2 ^ (g+k):Nat):Int)+((2 ^ (g+k):Nat):Int)≤m.c.ceil (k:Int):=by
      rw [tp.ceil hk,← Int.natCast_mul,← Int.natCast_add,Int.ofNat_le]
      have:(j+1)*2 ^ (g+k)≤tP l u k*(2+k)*2 ^ (g+k):=Nat.mul_le_mul_right _ hj2
      rw [Nat.add_mul,Nat.one_mul] at this
      exact this
    have hcs:=chSum_put ⟨(j:Int)*((2 ^ (g+k):Nat):Int),((2 ^ (g+k):Nat):Int),asked⟩ bl
    dsimp only at hcs
    have hpM:=fg.pM
    have hmk:=fg.mar
    obtain ⟨c1,c2⟩:=commitP_on (by unfold metP;rw [tab_len]) hc
    refine ⟨?_,?_,?_,fun i hi=>?_,c1⟩
    · show chSum _≤max m.peak (chSum _);omega
    · show max m.peak (chSum _)≤m.c.M;omega
    · show max m.mark _≤B;omega
    · rcases c2 i hi with h5 | ⟨h5,h6⟩
      · exact fg.pg i h5
      · obtain ⟨x,hx⟩:=ok.c.ceilPg (k:=(k:Int)) (by omega) (by rw [tp.ex.hL];omega)
        show ((i:Int)+1)*m.c.Pg≤B
        unfold pagesP at h6
        rw [if_neg (by omega)] at h6
        dsimp only at h6
        have h7:(i:Int)≤((j:Int)*((2 ^ (g+k):Nat):Int)+((2 ^ (g+k):Nat):Int)-1) / m.c.Pg:=by omega
        have h8:=(Int.le_ediv_iff_mul_le (show 0<m.c.Pg by omega)).1 h7
        have h9:(i:Int)*m.c.Pg<x*m.c.Pg:=by rw [← hx];omega
        have h10:=Int.lt_of_mul_lt_mul_right h9 (by omega)
        have h11:((i:Int)+1)*m.c.Pg≤x*m.c.Pg:=Int.mul_le_mul_of_nonneg_right (by omega) (by omega)
        omega
theorem doM_fig {m:Mod} {B:Int} (tp:m.c.Tp g l u) (ok:m.Ok) (hb:∀ b∈m.bl,Bin g l u b) (fg:Fig m B) (o:OpV) (hB:∀ k:Nat,k≤l→(∃ b∈(doM m o).1.bl,b.ch=((2 ^ (g+k):Nat):Int))→m.c.ceil (k:Int)≤B):Fig (doM m o).1 B:=by
  have f:=ok.c.facts
  have here:∀ (bl:List Blk),(∀ b∈bl,Bin g l u b)→∀ (k:Nat) (asked:Int),k≤l→chSum bl+((2 ^ (g+k):Nat):Int)≤m.c.M→(placeM m bl ((2 ^ (g+k):Nat):Int) asked).2.2=0→∃ b∈(placeM m bl ((2 ^ (g+k):Nat):Int) asked).1.bl,b.ch=((2 ^ (g+k):Nat):Int):=by
    intro bl hbl k asked hk hs h
    have z:=Nat.two_pow_pos (g+k)
    rcases placeM_cases m bl (n:=((2 ^ (g+k):Nat):Int)) (asked:=asked) (by omega) (by omega) with ⟨_,e⟩ | e | ⟨j',on',fr,h1,h2,h3,h4,ho,hc,e⟩
    · rw [e] at h;exact absurd h (by show ¬ (7:Int)=0;decide)
    · rw [e] at h;exact absurd h (by show ¬ (6:Int)=0;decide)
    · rw [e];exact ⟨_,(putB_mem _ _ _).2 (.inl rfl),rfl⟩
  by_cases he:(doM m o).2.err≠0
  · rw [doM_fail m o he];exact fg
  have he:(doM m o).2.err=0:=by omega
  unfold doM at hB he ⊢
  by_cases h1:o.k=1∨o.k=2∨o.k=3
  · rw [if_pos h1] at hB he ⊢
    unfold giveM at hB he ⊢
    dsimp only at hB he ⊢
    have hr:((if o.k=2 then manyS m.c.G m.c.N m.c.M m.live o.n o.s else newS m.c.G m.c.N m.c.M m.live o.s (if o.k=3 then o.a else 1)).2≠0∧(if o.k=2 then manyS m.c.G m.c.N m.c.M m.live o.n o.s else newS m.c.G m.c.N m.c.M m.live o.s (if o.k=3 then o.a else 1)).1=0)∨((if o.k=2 then manyS m.c.G m.c.N m.c.M m.live o.n o.s else newS m.c.G m.c.N m.c.M m.live o.s (if o.k=3 then o.a else 1)).2=0∧m.live+(if o.k=2 then manyS m.c.G m.c.N m.c.M m.live o.n o.s else newS m.c.G m.c.N m.c.M m.live o.s (if o.k=3 then o.a else 1)).1≤m.c.M∧∃ k:Nat,k≤l∧(if o.k=2 then manyS m.c.G m.c.N m.c.M m.live o.n o.s else newS m.c.G m.c.N m.c.M m.live o.s (if o.k=3 then o.a else 1)).1=((2 ^ (g+k):Nat):Int)):=by
      by_cases h2:o.k=2
      · simp only [if_pos h2];exact charge_many tp.ex _ _ _
      · simp only [if_neg h2];exact charge_new tp.ex _ _ _
    generalize (if o.k=2 then manyS m.c.G m.c.N m.c.M m.live o.n o.s else newS m.c.G m.c.N m.c.M m.live o.s (if o.k=3 then o.a else 1))=r at *
    generalize (if o.k=2 then wrap64 (o.n*o.s) else o.s)=s at *
    rcases hr with ⟨h2,_⟩ | ⟨h2,h3,k,hk,h4⟩
    · rw [if_neg h2] at he;exact absurd he h2
    · rw [if_pos h2,h4] at hB he ⊢
      rw [ok.live,h4] at h3
      by_cases hq:(placeM m m.bl ((2 ^ (g+k):Nat):Int) s).2.2=0
      · rw [if_pos hq] at hB he ⊢
        have hbl:=here m.bl hb k s hk h3 hq
        have fgp:=placeM_fig tp ok fg hb hk h3 (asked:=s) (hB k hk (by
          dsimp only
          by_cases h2:o.k=2
          · rw [if_pos h2];exact hbl
          · rw [if_neg h2];exact hbl)) hq
        by_cases h2:o.k=2
        · simp only [if_pos h2];exact ⟨fgp.lp,fgp.pM,fgp.mar,fgp.pg,fgp.cp⟩
        · simp only [if_neg h2];exact fgp
      · rw [if_neg hq] at he;exact absurd he hq
  · rw [if_neg h1] at hB he ⊢
    by_cases h9:o.k=9
    · rw [if_pos h9]
      refine ⟨fg.lp,fg.pM,fg.mar,fun i hi=>?_,?_⟩
      · obtain ⟨_,h2⟩:=tab_false hi
        exact fg.pg i (Bool.and_eq_true_iff.1 h2).1
      · have:cnt (trimP m.on (metP m.c.Pg m.on.length m.bl))≤cnt m.on:=cnt_mono (by unfold trimP;rw [tab_len]) fun i hi=>by
          obtain ⟨_,h2⟩:=tab_false hi
          exact (Bool.and_eq_true_iff.1 h2).1
        have h2:=fg.cp
        show (cnt (trimP m.on (metP m.c.Pg m.on.length m.bl)):Int)≤m.c.P
        omega
    · rw [if_neg h9] at hB he ⊢
      by_cases h10:o.k=10
      · rw [if_pos h10];exact fg
      · rw [if_neg h10] at hB he ⊢
        by_cases h48:o.k=4∨o.k=5∨o.k=6∨o.k=7∨o.k=8
        · rw [if_pos h48] at hB he ⊢
          cases hf:findB m.bl o.p with
          | none=>dsimp only;exact fg
          | some A =>
            rw [hf] at hB he
            obtain ⟨hA,_⟩:=findB_lt hf
            dsimp only at hB he ⊢
            rw [getD_lt _ hA] at hB he ⊢
            have hrest:=chSum_rest hA
            have hbr:∀ b∈m.bl.take A++m.bl.drop (A+1),Bin g l u b:=by
              intro b h
              rcases List.mem_append.1 h with h | h
              · exact hb b (List.mem_of_mem_take h)
              · exact hb b (List.mem_of_mem_drop h)
            have hl:=ok.live
            have hc1:=(ok.bl _ (List.getElem_mem hA)).2.1
            unfold ofM at hB he ⊢
            dsimp only at hB he ⊢
            by_cases h4:o.k=4
            · rw [if_pos h4] at hB he ⊢
              have cr:=charge_new tp.ex (m.live-m.bl[A].ch) o.s 1
              generalize newS m.c.G m.c.N m.c.M (m.live-m.bl[A].ch) o.s 1=r at *
              rcases cr with ⟨h2,_⟩ | ⟨h2,h3,k,hk,h5⟩
              · rw [if_neg h2] at he;exact absurd he h2
              · rw [if_pos h2,h5] at hB he ⊢
                rw [h5] at h3
                by_cases hq:(placeM m (m.bl.take A++m.bl.drop (A+1)) ((2 ^ (g+k):Nat):Int) o.s).2.2=0
                · rw [if_pos hq] at hB he ⊢
                  have hbl:=here _ hbr k o.s hk (by omega) hq
                  have fgp:=placeM_fig tp ok fg hbr hk (by omega) (asked:=o.s) (hB k hk hbl) hq
                  exact ⟨fgp.lp,fgp.pM,fgp.mar,fgp.pg,fgp.cp⟩
                · rw [if_neg hq] at he;exact absurd he hq
            · rw [if_neg h4]
              by_cases h5:o.k=5
              · rw [if_pos h5]
                have h6:=fg.lp
                exact ⟨by dsimp only;omega,fg.pM,fg.mar,fg.pg,fg.cp⟩
              · rw [if_neg h5]
                split
                · exact fg
                · split
                  · exact fg
                  · split
                    · exact fg
                    · exact ⟨fg.lp,fg.pM,fg.mar,fg.pg,fg.cp⟩
        · rw [if_neg h48];exact fg
theorem fig_new {c:Cf} (ok:c.Ok) {B:Int} (hB:0≤B):Fig (newM c) B:=by
  have f:=ok.facts
  refine ⟨Int.le_refl _,by show (0:Int)≤c.M;omega,hB,fun i hi=>?_,?_⟩
  · obtain ⟨_,h2⟩:=tab_false hi
    cases h2
  · have:cnt (tab (c.H / c.Pg).toNat fun _=>false)≤0:=cnt_first fun i hi=>by
      obtain ⟨_,h2⟩:=tab_false hi
      cases h2
    show (cnt (tab (c.H / c.Pg).toNat fun _=>false):Int)≤c.P
    omega
end
end Go.Proofs.D.S
/- TopCeil: whatever the numbers,the law answers yes. -/
set_option linter.unusedVariables false
set_option linter.unusedSimpArgs false
namespace Go.Proofs.D.S
open Go Go.RowKit
theorem hodmantop_TopCeil.law {G:GH} (hG:Beg G) {id:Nat} {xs:List Int} (hs:Sl G eU8 id 0 xs) (hb:Bytes xs) {id2:Nat} {ys:List Int} (hs2:Sl G eU8 id2 0 ys) (hb2:Bytes ys) :
    OkT (CW hodmantop_TopCeil.id [.c (.sl 1 id 0 xs.length),.c (.sl 1 id2 0 ys.length)] G):=by
  obtain ⟨G1,e1,f1⟩:=F33.sp hG
  rw [hodmantop_TopCeil.cw]
  unfold hodmantop_TopCeil.f
  simp only [e1,Qs]
  by_cases h6:(xs.length:Int)>6
  · rw [condD_pos h6,hodmantop_TopCeil.J13_eq,q_ct];exact ⟨_,rfl⟩
  rw [condD_neg h6,hodmantop_TopCeil.J13_eq]
  by_cases h250:(ys.length:Int)>250
  · rw [condD_pos h250];exact ⟨_,rfl⟩
  rw [condD_neg h250]
  have h0:=Hp.refl f1.wf
  have p0:PkOk G1 [] id 0 xs.length xs:=⟨.old (f1.sl _ _ _ _ hs),hb,rfl,by omega⟩
  obtain ⟨pid,G2,e2,h2⟩:=F34.sp h0 id 0 xs.length
  obtain ⟨r,j,G3,e3,h3,rok,_,_⟩:=F11.sp h2 p0 (by omega) (by omega) false
  simp only [e2,e3,Qs,List.length_cons,List.length_nil,if_true]
  obtain ⟨g0,c0,q0,sm⟩:=rok.cfSmall
  have hof:=rok.ofC
  have sl2:Sl G3 eU8 id2 0 ys:=(f1.sl _ _ _ _ hs2).keep h3
  have hw:=h3.wf
  clear e1 e2 e3 h3 h2 p0 h0
  have ok:=sm.ok
  obtain ⟨hid,s0,g,l,u,G4,e4,h4,hm4,_⟩:=F107.sp hw (r:=r) (by rw [hof])
  rw [hof] at hm4
  simp only [rwC] at e4
  rw [e4]
  clear e4 sm rok
  generalize cfOf r=C at *
  have tp:C.Tp g l u:=hm4.tp
  have hid0:=hm4.raw.h0
  have fs:=ok.facts
  have hL:=tp.ex.hL
  have hgl:=tp.ex.hgl
  simp only [Qs,List.length_cons,List.length_nil,if_true,decide_true]
  have J0:OkT (hodmantop_TopCeil.J22 machW CW id2 0 ys.length hid 0 false r.g r.la r.li r.pa r.bu r.se G4):=by
    rw [hodmantop_TopCeil.J22_eq,q_cf,F51.sp hm4.raw]
    have hc4:s0.c=C:=hm4.eq.c.symm
    rw [hc4]
    simp only [cfC,Qs,List.length_cons,List.length_nil,if_true]
    have pp:PkOk G4 [] id2 0 ys.length ys:=⟨.old (sl2.keep h4),hb2,rfl,by omega⟩
    obtain ⟨pd,G5,e5,h5⟩:=F34.sp (Hp.refl h4.wf) id2 0 ys.length
    obtain ⟨oid,ops,j',G6,e6,h6',hops,hol⟩:=F12.sp h5 pp (Int.le_refl _) (by omega) hof ok (A:=80) (by omega)
    rw [e5]
    simp only [Qs]
    simp only [rwC] at e6
    rw [e6]
    simp only [Qs]
    have hm6:=hm4.keep h6'
    have sO:Sx (s0.X hid) G6 eOp oid 0 ops:=h6'.sx (List.mem_cons_self ..) hm4.raw.ids
    have w6:=h6'.wf
    generalize hX:s0.X hid=X at *
    have lp:∀ (d i:Nat) (most_:Int) (m:Mod) (s:HS) (G7:GH),i+d=ops.length→FrX X G6 G7→HM G7 hid s g l u m→s.X hid=X→m.c=C→0≤most_∧most_≤C.H→Fig m most_ →
        OkT (hodmantop_TopCeil.L75 machW CW hid 0 oid 0 ops.length most_ (i:Int) C.G C.N C.M C.L C.Pg C.P C.H C.Sd G7):=by
      intro d
      induction d with
      | zero =>
        intro i most_ m s G7 hi fr hm hsX hc hmo fg
        rw [hodmantop_TopCeil.L75_eq,condD_neg (by omega)]
        exact ⟨_,rfl⟩
      | succ d ih =>
        intro i most_ m s G7 hi fr hm hsX hc hmo fg
        have hil:i<ops.length:=by omega
        have s7:=(sO.fr fr w6).1
        obtain ⟨rs,ra,rn,_⟩:=hops _ (List.getElem_mem hil)
        have q0:=s7.ld i 0 hil (by omega)
        have q1:=s7.ld i 1 hil (by omega)
        have q2:=s7.ld i 2 hil (by omega)
        have q3:=s7.ld i 3 hil (by omega)
        have q4:=s7.ld i 4 hil (by omega)
        have q5:=s7.ld i 5 hil (by omega)
        generalize ops[i]=o at *
        obtain ⟨G8,s',e8,hm8,f8,x8⟩:=F69.sp hm o rs ra rn
        rw [hsX] at f8 x8
        have tpm:m.c.Tp g l u:=by rw [hc];exact tp
        obtain ⟨okd,hcd⟩:=doM_ok hm.ok o
        have hc8:=hcd.trans hc
        obtain ⟨n7,_,_⟩:=doM_good tpm hm.ok hm.bl.bin o
        obtain ⟨bid,G9,e9,h9⟩:=F29.sp hm8
        have hm9:=hm8.keep h9
        have fr9:FrX X G6 G9:=(fr.trans f8).trans (FrX.hp h9)
        have sB:=h9.sl0
        have bin:=hm8.bl.bin
        have hlen:=hm8.bl.len
        have hl1:=okd.live
        have hl2:=okd.lim
        rw [hc8] at hl2
        obtain ⟨w1,w2⟩:=Bin.all tp bin
        have fgd:∀ B:Int,most_≤B→(∀ k:Nat,k≤l→(∃ b∈(doM m o).1.bl,b.ch=((2 ^ (g+k):Nat):Int))→C.ceil (k:Int)≤B)→Fig (doM m o).1 B:=fun B hB hk=>doM_fig tpm hm.ok hm.bl.bin (fg.mono hB) o fun k h1 h2=>by rw [hc];exact hk k h1 h2
        rw [hodmantop_TopCeil.L75_eq,condD_pos (by omega),guardD_of (by omega)]
        simp only [Int.toNat_natCast,q0,q1,q2,q3,q4,q5,Qs]
        rw [e8]
        simp only [Qs,List.length_cons,List.length_nil,if_true]
        rw [e9]
        simp only [Qs]
        generalize (doM m o).2=A at *
        generalize (doM m o).1=m' at *
        have lb:∀ (d k:Nat) (B:Int),k+d=m'.bl.length→most_≤B→B≤C.H→(∀ p (hp:p<m'.bl.length),p<k→∀ kk:Nat,kk≤l→m'.bl[p].ch=((2 ^ (g+kk):Nat):Int)→C.ceil (kk:Int)≤B) →
            OkT (hodmantop_TopCeil.L56 machW CW hid 0 oid 0 ops.length B (i:Int) bid 0 m'.bl.length (k:Int) C.G C.N C.M C.L C.Pg C.P C.H C.Sd A.err A.at_ A.n A.byte A.live A.peak A.mark A.pages G9):=by
          intro d
          induction d with
          | zero =>
            intro k B hk hB0 hB1 hall
            have fgB:=fgd B hB0 fun kk h1 ⟨b,hb,h2⟩=>by
              obtain ⟨p,hp,rfl⟩:=List.getElem_of_mem hb
              exact hall p hp (by omega) kk h1 h2
            rw [hodmantop_TopCeil.L56_eq,condD_neg (by omega)]
            have fgr:=F69.figures hm9.raw (by have:=hm9.cf.onl;omega) (p:=0) (sz:=0) (a:=0) (n:=0) (b:=0)
            rw [fgr]
            simp only [Qs,List.length_cons,List.length_nil,if_true]
            have cw:=F79.sp tp sB w2 (by omega)
            rw [cfC] at cw
            rw [cw,w1]
            simp only [Qs]
            have b1:=fgB.pM
            have b2:=fgB.mar
            have b3:=fgB.cp
            have b4:(cnt m'.on:Int)*C.Pg≤B:=by
              have h1:cnt m'.on≤(B / C.Pg).toNat:=cnt_first fun i hi=>by
                have h2:=fgB.pg i hi
                rw [hc8] at h2
                have h3:=(Int.le_ediv_iff_mul_le (show 0<C.Pg by omega)).2 h2
                omega
              have h0:=Int.ediv_nonneg (show 0≤B by omega) (show 0≤C.Pg by omega)
              have h2:(cnt m'.on:Int)≤B / C.Pg:=by omega
              exact (Int.le_ediv_iff_mul_le (show 0<C.Pg by omega)).1 h2
            rw [hm8.eq.peak,hc8] at b1
            rw [hm8.eq.mark] at b2
            rw [hm8.eq.on,hc8] at b3
            rw [hm8.eq.on] at b4
            have b5:(0:Int)≤(cnt s'.on:Int)*C.Pg:=Int.mul_nonneg (by omega) (by omega)
            rw [condD_neg (by omega),condD_neg (by omega),mx2_eq,i64w,wrap_id (by omega) (by omega),condD_neg (by omega),condD_neg (by omega),decide_eq_false n7,hodmantop_TopCeil.J65_eq,q_cf,i64w,wrap_id (by omega) (by omega),show (i:Int)+1=((i+1:Nat):Int) by omega]
            exact ih (i+1) B m' s' G9 (by omega) fr9 hm9 x8 hc8 ⟨by omega,hB1⟩ fgB
          | succ d ihd =>
            intro k B hk hB0 hB1 hall
            have hkl:k<m'.bl.length:=by omega
            have r0:=sB.ld k 0 hkl (by omega)
            have r1:=sB.ld k 1 hkl (by omega)
            obtain ⟨kk,a,hkk,hch,hat,ha⟩:=bin _ (List.getElem_mem hkl)
            have z:=Nat.two_pow_pos (g+kk)
            have hcl:=(ok.ceil (k:=(kk:Int)) (by omega) (by omega)).2
            have hce:=tp.ceil hkk
            have hend:(a+1)*2 ^ (g+kk)≤tP l u kk*(2+kk)*2 ^ (g+kk):=Nat.mul_le_mul_right _ ha
            rw [Nat.add_mul,Nat.one_mul] at hend
            have sh:=F84.sp (G:=G9) (c:=C) tp.ex (ch:=m'.bl[k].ch) (by rw [hch];have:=pow16 (e:=g+kk) (by omega);unfold R64;omega)
            rw [hch,shiftS_pow hkk,cfC] at sh
            have cc:=F102.sp (G:=G9) ok (kk:Int)
            rw [cfC] at cc
            have hle:m'.bl[k].at_+m'.bl[k].ch≤C.ceil (kk:Int):=by rw [hat,hch,hce];omega
            have hpos:0≤m'.bl[k].at_∧0≤m'.bl[k].ch:=by rw [hat,hch];omega
            rw [hodmantop_TopCeil.L56_eq,condD_pos (by omega),guardD_of (by omega)]
            simp only [Int.toNat_natCast,r0,r1,Qs]
            rw [hch] at hle hpos ⊢
            rw [sh]
            simp only [Qs]
            rw [guardD_of (by omega)]
            simp only [Int.toNat_natCast,r0,r1,Qs]
            rw [guardD_of (by omega)]
            rw [cc]
            simp only [Int.toNat_natCast,r0,r1,Qs]
            rw [guardD_of trivial,hch,guardD_of trivial,i64w,wrap_id (by omega) (by omega),decide_eq_false (show ¬ m'.bl[k].at_+((2 ^ (g+kk):Nat):Int)>C.ceil (kk:Int) by omega),hodmantop_TopCeil.J47_eq,q_cf,cc]
            simp only [Qs]
            rw [mx2_eq,i64w,wrap_id (by omega) (by omega),show (k:Int)+1=((k+1:Nat):Int) by omega]
            refine ihd (k+1) (max B (C.ceil (kk:Int))) (by omega) (by omega) (by omega) fun p hp hpk k2 hk2 hc2=>?_
            by_cases hpe:p=k
            · subst hpe
              have:k2=kk:=by
                have h3:=hc2.symm.trans hch
                have h4:2 ^ (g+k2)=2 ^ (g+kk):=by exact_mod_cast h3
                have:=congrArg Nat.log2 h4
                rw [Nat.log2_two_pow,Nat.log2_two_pow] at this
                omega
              subst this
              omega
            · have:=hall p hp (by omega) k2 hk2 hc2
              omega
        exact lb m'.bl.length 0 most_ (by omega) (Int.le_refl _) hmo.2 fun p hp h=>by omega
    exact lp ops.length 0 0 (newM C) s0 G6 (by omega) FrX.refl hm6 hX rfl ⟨Int.le_refl _,by omega⟩ (fig_new ok (Int.le_refl _))
  rw [nbf hid0]
  exact J0
end Go.Proofs.D.S
