/- Texts of the proof (SpBlk, DCeil, DTight, DRob, DMod, DMod2, DSrt, DBin, DMap, SpRel, SpRel2, SpRel3, SpRel4, SpRel5, SpRel6, SpPicks, SpLow, SpPage, SpCommit, SpPlace, SpOp, SpMapC, DRun, DFair, SpFair, SpClient, SpFairR, DSame, DFail, DAlike, DAlike2, DAlike3, DExt); no condition. -/
import Derived.Test.YtogdeblppihbnaaTopBytesi
import Derived.Test.YtogdeblppihbnaaTopBytesFb
set_option linter.unusedSimpArgs false
set_option linter.unusedVariables false
/- A heap's calls to a block: those that neither move nor free it. -/
set_option linter.unusedVariables false
set_option linter.unusedSimpArgs false
namespace Go.Proofs.D.S
open Go Go.RowKit
variable {G G' G0 G1:GH} {L R:List (Nat×Obj)}
variable {hid:Nat} {s:HS}
theorem HRaw.ents0 (h:HRaw G hid s):G.ents0 (.agg [.int .i64]) s.mid=some s.es:=by
  unfold GH.ents0
  rw [if_neg h.m0];exact h.ents
abbrev opA (k p sz a n b:Int):V1:=.agg [.int .i64 k,.int .i64 p,.int .i64 sz,.int .i64 a,.int .i64 n,.int .u8 b]
abbrev ansA (e a n b l p m g:Int):V1:=.agg [.int .i64 e,.int .i64 a,.int .i64 n,.int .u8 b,.int .i64 l,.int .i64 p,.int .i64 m,.int .i64 g]
theorem F19.none (h:HRaw G hid s) {k p sz a n b:Int} (hm:mapGet s.es (kv p)=none) :
    CW F19.id [.c (.ptr hid 0),opA k p sz a n b] G=some ([ansA 8 0 0 0 0 0 0 0],G):=by
  have l11:G.ld hid 11=some (.map s.mid):=by rw [h.ld];rfl
  rw [F19.cw]
  unfold F19.f
  rw [guardK_of (nb0 h.h0)]
  simp only [Nat.zero_add,l11,Qs]
  rw [h.ents0,q_bs,hm]
  simp only [Option.getD_none,Option.isSome_none,Qs,List.length_cons,List.length_nil,if_true,Nat.zero_add,Nat.reduceAdd]
theorem F19.usable (h:HRaw G hid s) {p sz a n b at_ ch asked:Int} (hm:mapGet s.es (kv p)=some (bv at_ ch asked)) :
    CW F19.id [.c (.ptr hid 0),opA 6 p sz a n b] G=some ([ansA 0 0 ch 0 0 0 0 0],G):=by
  have l11:G.ld hid 11=some (.map s.mid):=by rw [h.ld];rfl
  rw [F19.cw]
  unfold F19.f
  rw [guardK_of (nb0 h.h0)]
  simp only [Nat.zero_add,l11,Qs]
  rw [h.ents0,q_bs,hm]
  simp only [Option.getD_some,Option.isSome_some,Qs,List.length_cons,List.length_nil,if_true,Nat.zero_add,Nat.reduceAdd]
  rw [condD_neg (by decide),condD_neg (by decide),condD_pos trivial]
theorem F19.bound (h:HRaw G hid s) {k p sz a n b at_ ch asked:Int} (hk:k=7∨k=8) (hm:mapGet s.es (kv p)=some (bv at_ ch asked)) (hn:n<0∨n≥ch) :
    CW F19.id [.c (.ptr hid 0),opA k p sz a n b] G=some ([ansA 9 0 0 0 0 0 0 0],G):=by
  have l11:G.ld hid 11=some (.map s.mid):=by rw [h.ld];rfl
  rw [F19.cw]
  unfold F19.f
  rw [guardK_of (nb0 h.h0)]
  simp only [Nat.zero_add,l11,Qs]
  rw [h.ents0,q_bs,hm]
  simp only [Option.getD_some,Option.isSome_some,Qs,List.length_cons,List.length_nil,if_true,Nat.zero_add,Nat.reduceAdd]
  rw [condD_neg (by omega),condD_neg (by omega),condD_neg (by omega)]
  by_cases h1:n<0
  · rw [condD_pos h1,F19.J31_eq,q_ct]
  · rw [condD_neg h1,decide_eq_true (by omega),F19.J31_eq,q_ct]
theorem F19.load (h:HRaw G hid s) {p sz a b ch asked:Int} {n at_:Nat} (hm:mapGet s.es (kv p)=some (bv (at_:Int) ch asked)) (hn:(n:Int)<ch) (hi:at_+n<s.mem.length) (hl:s.mem.length≤65536) :
    CW F19.id [.c (.ptr hid 0),opA 7 p sz a (n:Int) b] G=some ([ansA 0 0 0 s.mem[at_+n] 0 0 0 0],G):=by
  have l11:G.ld hid 11=some (.map s.mid):=by rw [h.ld];rfl
  have l17:G.ld hid 17=some (.sl 1 s.mmi 0 s.mem.length):=by rw [h.ld];rfl
  have sm:Sl G eU8 s.mmi 0 s.mem:=.inr ⟨_,row_row h.mem,by omega,by rw [List.drop_zero,List.take_length]⟩
  have r:=sm.ld (at_+n) 0 hi (by omega)
  rw [Nat.zero_add,Nat.add_zero] at r
  rw [F19.cw]
  unfold F19.f
  rw [guardK_of (nb0 h.h0)]
  simp only [Nat.zero_add,l11,Qs]
  rw [h.ents0,q_bs,hm]
  simp only [Option.getD_some,Option.isSome_some,Qs,List.length_cons,List.length_nil,if_true,Nat.zero_add,Nat.reduceAdd]
  rw [condD_neg (by omega),condD_neg (by omega),condD_neg (by omega),condD_neg (by omega),decide_eq_false (by omega),F19.J31_eq,q_cf,condD_pos rfl,guardK_of (nb0 h.h0)]
  simp only [Nat.zero_add,l17,Qs]
  rw [i64w,wrap_id (by omega) (by omega),guardD_of (by omega),show ((at_:Int)+(n:Int)).toNat=at_+n by omega,r]
  simp only [eU8,List.getElem?_cons_zero,Qs]
theorem F19.store (h:HRaw G hid s) {p sz a b ch asked:Int} {n at_:Nat} (hm:mapGet s.es (kv p)=some (bv (at_:Int) ch asked)) (hn:(n:Int)<ch) (hi:at_+n<s.mem.length) (hl:s.mem.length≤65536) :
    ∃ G',CW F19.id [.c (.ptr hid 0),opA 8 p sz a (n:Int) b] G=some ([ansA 0 0 0 0 0 0 0 0],G')∧HRaw G' hid { s with mem:=s.mem.set (at_+n) b }∧FrX (s.X hid) G G':=by
  have l11:G.ld hid 11=some (.map s.mid):=by rw [h.ld];rfl
  have l17:G.ld hid 17=some (.sl 1 s.mmi 0 s.mem.length):=by rw [h.ld];rfl
  obtain ⟨G',e,h2,f2⟩:=h.wr (a:=at_+n) (new:=[b]) (by simp;omega)
  refine ⟨G',?_,?_,f2⟩
  · rw [F19.cw]
    unfold F19.f
    rw [guardK_of (nb0 h.h0)]
    simp only [Nat.zero_add,l11,Qs]
    rw [h.ents0,q_bs,hm]
    simp only [Option.getD_some,Option.isSome_some,Qs,List.length_cons,List.length_nil,if_true,Nat.zero_add,Nat.reduceAdd]
    rw [condD_neg (by omega),condD_neg (by omega),condD_neg (by omega),condD_neg (by omega),decide_eq_false (by omega),F19.J31_eq,q_cf,condD_neg (by omega),guardK_of (nb0 h.h0)]
    simp only [Nat.zero_add,l17,Qs]
    rw [i64w,wrap_id (by omega) (by omega),guardD_of (by omega),show ((at_:Int)+(n:Int)).toNat=at_+n by omega]
    rw [show [Cell.int .u8 b]=cells eU8 [b] by simp [cells,eU8],e,q_bs]
  · rw [show s.mem.set (at_+n) b=s.mem.take (at_+n)++[b]++s.mem.drop (at_+n + [b].length) by
      rw [List.set_eq_take_append_cons_drop,if_pos hi];simp]
    exact h2
theorem F19.free (h:HRaw G hid s) {p sz a n b at_ ch asked:Int} (hm:mapGet s.es (kv p)=some (bv at_ ch asked)) (k:CW F27.id [.c (.ptr hid 0),bv at_ ch asked] G=some ([],G')) :
    CW F19.id [.c (.ptr hid 0),opA 5 p sz a n b] G=some ([ansA 0 0 0 0 0 0 0 0],G'):=by
  have l11:G.ld hid 11=some (.map s.mid):=by rw [h.ld];rfl
  rw [F19.cw]
  unfold F19.f
  rw [guardK_of (nb0 h.h0)]
  simp only [Nat.zero_add,l11,Qs]
  rw [h.ents0,q_bs,hm]
  simp only [Option.getD_some,Option.isSome_some,Qs,List.length_cons,List.length_nil,if_true,Nat.zero_add,Nat.reduceAdd]
  rw [condD_neg (by decide),condD_pos trivial,k,q_bs]
theorem F19.realloc (h:HRaw G hid s) {p sz a n b at_ ch asked:Int} (hm:mapGet s.es (kv p)=some (bv at_ ch asked)) {e0 a1 n2 b3 l4 p5 m6 g7:Int} (k:CW F13.id [.c (.ptr hid 0),bv at_ ch asked,.c (.int .i64 sz)] G=some ([ansA e0 a1 n2 b3 l4 p5 m6 g7],G')) :
    CW F19.id [.c (.ptr hid 0),opA 4 p sz a n b] G=some ([ansA e0 a1 n2 b3 l4 p5 m6 g7],G'):=by
  have l11:G.ld hid 11=some (.map s.mid):=by rw [h.ld];rfl
  rw [F19.cw]
  unfold F19.f
  rw [guardK_of (nb0 h.h0)]
  simp only [Nat.zero_add,l11,Qs]
  rw [h.ents0,q_bs,hm]
  simp only [Option.getD_some,Option.isSome_some,Qs,List.length_cons,List.length_nil,if_true,Nat.zero_add,Nat.reduceAdd]
  rw [condD_pos trivial,k,q_bs]
  simp only [Qs,List.length_cons,List.length_nil,if_true,Nat.zero_add,Nat.reduceAdd]
end Go.Proofs.D.S
/- Plain lemmas on how much must be live at least: sums over the places of a class. -/
set_option linter.unusedVariables false
namespace Go.Proofs.D.S
open Go Go.RowKit

def ofP (k t j:Nat):Nat:=min k (j / t-1)
def leastN (g k t:Nat):Nat→Nat
  | 0=>0
  | n+1=>leastN g k t n+2 ^ (g+ofP k t n)

theorem leastN_step (g k t n:Nat):leastN g k t n+2 ^ g≤leastN g k t (n+1):=by
  have:(2:Nat) ^ g≤2 ^ (g+ofP k t n):=Nat.pow_le_pow_right (by decide) (by omega)
  simp only [leastN];omega

theorem leastN_mono (g k t:Nat) {n m:Nat} (h:n≤m):leastN g k t n≤leastN g k t m:=by
  obtain ⟨d,rfl⟩:=Nat.exists_eq_add_of_le h
  clear h
  induction d with
  | zero=>exact Nat.le_refl _
  | succ d ih=>have:=leastN_step g k t (n+d);have:=Nat.two_pow_pos g;rw [← Nat.add_assoc];omega

theorem leastN_run (g k t e n:Nat) (m:Nat) (h:∀ j,n≤j→j<n+m→ofP k t j=e):leastN g k t (n+m)=leastN g k t n+m*2 ^ (g+e):=by
  induction m with
  | zero=>simp
  | succ m ih =>
    rw [← Nat.add_assoc]
    simp only [leastN]
    rw [ih (fun j h1 h2=>h j h1 (by omega)),h (n+m) (by omega) (by omega),Nat.succ_mul]
    omega

theorem leastN_seg (g k t:Nat) (ht:1≤t) (i:Nat) (hi:i≤k):leastN g k t (t*(2+i))=t*2 ^ (g+1+i):=by
  induction i with
  | zero =>
    have h:=leastN_run g k t 0 0 (t*2) (by
      intro j _ h
      have:j / t<2:=(Nat.div_lt_iff_lt_mul (by omega)).2 (by rw [Nat.mul_comm 2 t];omega)
      unfold ofP;omega)
    rw [Nat.zero_add] at h
    simp only [leastN,Nat.zero_add,Nat.add_zero] at h ⊢
    rw [h,Nat.mul_assoc,Nat.pow_succ,Nat.mul_comm 2]
  | succ i ih =>
    have h:=leastN_run g k t (i+1) (t*(2+i)) t (by
      intro j h1 h2
      have e:j / t=2+i:=by
        apply Nat.div_eq_of_lt_le
        · rw [Nat.mul_comm];exact h1
        · rw [Nat.add_mul,Nat.mul_comm (2+i) t];omega
      unfold ofP;omega)
    have e:t*(2+(i+1))=t*(2+i)+t:=by rw [← Nat.add_assoc,Nat.mul_add t (2+i) 1];omega
    rw [e,h,ih (by omega),show g+1+(i+1)=(g+1+i)+1 by omega,show g+(i+1)=g+1+i by omega,Nat.pow_succ,← Nat.mul_assoc]
    omega

theorem leastN_full (g k t:Nat) (ht:1≤t):leastN g k t (t*(2+k))=t*2 ^ (g+1+k):=leastN_seg g k t ht k (Nat.le_refl _)

theorem ofP_spec {k t j:Nat} (ht:1≤t):ofP k t j≤k∧(∀ i,i<ofP k t j→t*(2+i)≤j)∧(ofP k t j<k→j<t*(2+ofP k t j)):=by
  unfold ofP
  have h1:=Nat.div_add_mod j t
  have h2:=Nat.mod_lt j (show t>0 by omega)
  refine ⟨by omega,?_,?_⟩
  · intro i hi
    have h3:2+i≤j / t:=by omega
    have:=Nat.mul_le_mul_left t h3
    omega
  · intro hlt
    have h3:j / t+1≤2+min k (j / t-1):=by omega
    have:=Nat.mul_le_mul_left t h3
    rw [Nat.mul_add] at this
    omega

end Go.Proofs.D.S
/- The script that drives a heap high,plainly: which blocks are there behind each stage. -/
set_option linter.unusedVariables false
namespace Go.Proofs.D.S
open Go Go.RowKit
def tP (l u k:Nat):Nat:=u*2 ^ (l-k)
theorem tP_pos {l u k:Nat} (hu:1≤u):1≤tP l u k:=by
  have:=Nat.two_pow_pos (l-k)
  unfold tP;exact Nat.mul_pos hu this
theorem tP_half {g l u k:Nat} (h:k≤l):tP l u k*2 ^ (g+k)=u*2 ^ (g+l):=by
  unfold tP
  rw [Nat.mul_assoc,← Nat.pow_add,show l-k+(g+k)=g+l by omega]
structure Cf.Tp (c:Cf) (g l u:Nat):Prop where
  ok:c.Ok
  ex:c.Ex g l
  hu:1≤u
  hM:c.M=((u*2 ^ (g+l+1):Nat):Int)
theorem Cf.Ok.tp {c:Cf} (h:c.Ok):∃ g l u,c.Tp g l u:=by
  have h0:=h
  obtain ⟨⟨g,l,p,q,e1,e2,e3,e4,e5,e6,e7,e8,e9⟩,h1,h2,h3,h4⟩:=h
  refine ⟨g,l,q*2 ^ (max (g+l) p-(g+l)),h0,⟨e1,e2,e3,e8⟩,Nat.mul_pos e6 (Nat.two_pow_pos _),?_⟩
  rw [e7,Nat.mul_assoc,← Nat.pow_add,show max (g+l) p-(g+l)+(g+l+1)=max (g+l) p+1 by omega]
section
variable {c:Cf} {g l u:Nat}
theorem Cf.Tp.half (h:c.Tp g l u) {k:Nat} (hk:k≤l):c.M / 2=((tP l u k*2 ^ (g+k):Nat):Int):=by
  have e:=tP_half (g:=g) (u:=u) hk
  rw [h.hM,e]
  have:u*2 ^ (g+l+1)=2*(u*2 ^ (g+l)):=by rw [Nat.pow_succ,← Nat.mul_assoc];omega
  omega
theorem Cf.Tp.full (h:c.Tp g l u) {k:Nat} (hk:k≤l):c.M=((2*(tP l u k*2 ^ (g+k)):Nat):Int):=by
  have e:=tP_half (g:=g) (u:=u) hk
  rw [h.hM,e]
  have:u*2 ^ (g+l+1)=2*(u*2 ^ (g+l)):=by rw [Nat.pow_succ,← Nat.mul_assoc];omega
  omega
theorem Cf.Tp.ceil (h:c.Tp g l u) {k:Nat} (hk:k≤l):c.ceil (k:Int)=((tP l u k*(2+k)*2 ^ (g+k):Nat):Int):=by
  have hL:=h.ex.hL
  obtain ⟨e,_,_⟩:=h.ok.ceil (k:=(k:Int)) (by omega) (by omega)
  rw [e,h.half hk,h.full hk]
  have e2:tP l u k*(2+k)*2 ^ (g+k)=2*(tP l u k*2 ^ (g+k))+k*(tP l u k*2 ^ (g+k)):=by
    rw [← Nat.add_mul,Nat.mul_assoc,Nat.mul_comm (2+k),← Nat.mul_assoc,Nat.mul_comm (2+k)]
  rw [e2,Int.natCast_add,Int.natCast_mul k]
theorem Cf.Tp.small (h:c.Tp g l u) {k:Nat} (hk:k≤l):tP l u k*(2+k)*2 ^ (g+k)≤65536:=by
  have hL:=h.ex.hL
  obtain ⟨e,a,b⟩:=h.ok.ceil (k:=(k:Int)) (by omega) (by omega)
  have f:=h.ok.facts
  rw [h.ceil hk] at a
  omega
end
section
variable (g l u:Nat)
def low (k:Nat):Nat:=if k=0 then 0 else tP l u k*(1+k)
def own (k:Nat):Nat:=if k=0 then 2*tP l u 0 else tP l u k
end
section
variable {g l u:Nat}
end
def inC (c:Cf) (g l:Nat) (b:Blk):Bool:=(shiftS g l b.ch).2&&!decide (b.at_>c.ceil (shiftS g l b.ch).1-b.ch)
end Go.Proofs.D.S
/- There is always room: the lowest place of a class lies below its ceiling while sums allow. -/
set_option linter.unusedVariables false
namespace Go.Proofs.D.S
open Go Go.RowKit
def Bin (g l u:Nat) (b:Blk):Prop:=∃ k a:Nat,k≤l∧b.ch=((2 ^ (g+k):Nat):Int)∧b.at_=((a*2 ^ (g+k):Nat):Int)∧a<tP l u k*(2+k)
def chSum (bl:List Blk):Int:=(bl.map Blk.ch).sum
theorem chSum_cons (b:Blk) (bl:List Blk):chSum (b::bl)=b.ch+chSum bl:=rfl
def sumTo (f:Nat→Nat):Nat→Nat
  | 0=>0
  | m+1=>sumTo f m+f m
theorem sumTo_mono {f h:Nat→Nat} (m:Nat) (k:∀ j,j<m→f j≤h j):sumTo f m≤sumTo h m:=by
  induction m with
  | zero=>exact Nat.le_refl _
  | succ m ih=>exact Nat.add_le_add (ih fun j hj=>k j (by omega)) (k m (by omega))
theorem sumTo_add (f h:Nat→Nat) (m:Nat):sumTo (fun j=>f j+h j) m=sumTo f m+sumTo h m:=by
  induction m with
  | zero=>rfl
  | succ m ih=>simp only [sumTo];omega
theorem leastN_sum (g k t m:Nat):leastN g k t m=sumTo (fun j=>2 ^ (g+ofP k t j)) m:=by
  induction m with
  | zero=>rfl
  | succ m ih=>simp only [leastN,sumTo,ih]
theorem sumTo_run (f:Nat→Nat) (p:Nat→Bool) (lo cnt B m:Nat) (hp:∀ j,p j=true→lo≤j∧j<lo+cnt) (hB:∀ j,p j=true→f j≤B) :
    sumTo (fun j=>if p j=true then f j else 0) m≤(min m (lo+cnt)-lo)*B:=by
  induction m with
  | zero=>simp [sumTo]
  | succ m ih =>
    simp only [sumTo]
    by_cases h:p m=true
    · obtain ⟨h1,h2⟩:=hp m h
      have h3:=hB m h
      rw [if_pos h]
      rw [Nat.min_eq_left (by omega)] at ih ⊢
      rw [show m+1-lo=(m-lo)+1 by omega,Nat.succ_mul]
      omega
    · rw [if_neg h]
      refine Nat.le_trans ih (Nat.mul_le_mul_right _ ?_)
      omega
def ovB (n:Int) (b:Blk) (j:Nat):Bool:=over ((j:Int)*n) n b.at_ b.ch
section
variable {g l u:Nat}
theorem block_sum (hu:1≤u) {k:Nat} (hk:k≤l) {b:Blk} (hb:Bin g l u b) (m:Nat) :
    ((sumTo (fun j=>if ovB ((2 ^ (g+k):Nat):Int) b j=true then 2 ^ (g+ofP k (tP l u k) j) else 0) m:Nat):Int)≤b.ch:=by
  obtain ⟨kb,a,hkb,hch,hat,ha⟩:=hb
  have z:=Nat.two_pow_pos (g+k)
  have zb:=Nat.two_pow_pos (g+kb)
  have ov:∀ j,ovB ((2 ^ (g+k):Nat):Int) b j=true→j*2 ^ (g+k)<(a+1)*2 ^ (g+kb)∧a*2 ^ (g+kb)<(j+1)*2 ^ (g+k):=by
    intro j h
    unfold ovB over at h
    simp only [Bool.and_eq_true,decide_eq_true_eq] at h
    rw [hch,hat,← Int.natCast_mul] at h
    rw [Nat.succ_mul,Nat.succ_mul]
    omega
  rw [hch]
  apply Int.ofNat_le.2
  rcases Nat.le_total kb k with hle | hle
  · -- it lies in one place
    have e:2 ^ (g+k)=2 ^ (k-kb)*2 ^ (g+kb):=by rw [← Nat.pow_add,show k-kb+(g+kb)=g+k by omega]
    have zr:=Nat.two_pow_pos (k-kb)
    have loc:∀ j,ovB ((2 ^ (g+k):Nat):Int) b j=true→j=a / 2 ^ (k-kb):=by
      intro j h
      obtain ⟨h1,h2⟩:=ov j h
      rw [e,← Nat.mul_assoc] at h1 h2
      have h3:=Nat.lt_of_mul_lt_mul_right h1
      have h4:=Nat.lt_of_mul_lt_mul_right h2
      symm
      apply Nat.div_eq_of_lt_le
      · omega
      · exact h4
    have h:=sumTo_run (fun j=>2 ^ (g+ofP k (tP l u k) j)) (ovB ((2 ^ (g+k):Nat):Int) b) (a / 2 ^ (k-kb)) 1 (2 ^ (g+kb)) m (fun j hj=>by rw [loc j hj];omega) (fun j hj=>by
      obtain ⟨h1,h2⟩:=ov j hj
      obtain ⟨o1,o2,o3⟩:=ofP_spec (k:=k) (t:=tP l u k) (j:=j) (tP_pos hu)
      refine Nat.pow_le_pow_right (by decide) ?_
      rcases Nat.lt_or_ge kb (ofP k (tP l u k) j) with hlt | hge
      · exfalso
        have h5:=o2 kb hlt
        have h6:tP l u kb*2 ^ (g+kb)=tP l u k*2 ^ (g+k):=by rw [tP_half hkb,tP_half hk]
        have h7:tP l u k*(2+kb)*2 ^ (g+k)≤j*2 ^ (g+k):=Nat.mul_le_mul_right _ h5
        have h8:(a+1)*2 ^ (g+kb)≤tP l u kb*(2+kb)*2 ^ (g+kb):=Nat.mul_le_mul_right _ ha
        have h9:tP l u kb*(2+kb)*2 ^ (g+kb)=tP l u k*(2+kb)*2 ^ (g+k):=by
          rw [Nat.mul_assoc,Nat.mul_comm (2+kb),← Nat.mul_assoc,h6,Nat.mul_assoc,Nat.mul_comm _ (2+kb),← Nat.mul_assoc]
        omega
      · omega)
    refine Nat.le_trans h ?_
    have h2:min m (a / 2 ^ (k-kb)+1)-a / 2 ^ (k-kb)≤1:=by omega
    calc _≤1*2 ^ (g+kb):=Nat.mul_le_mul_right _ h2
      _=2 ^ (g+kb):=Nat.one_mul _
  · -- it is of whole places
    have e:2 ^ (g+kb)=2 ^ (kb-k)*2 ^ (g+k):=by rw [← Nat.pow_add,show kb-k+(g+k)=g+kb by omega]
    have h:=sumTo_run (fun j=>2 ^ (g+ofP k (tP l u k) j)) (ovB ((2 ^ (g+k):Nat):Int) b) (a*2 ^ (kb-k)) (2 ^ (kb-k)) (2 ^ (g+k)) m (fun j hj=>by
      obtain ⟨h1,h2⟩:=ov j hj
      rw [e,← Nat.mul_assoc] at h1 h2
      have h3:=Nat.lt_of_mul_lt_mul_right h1
      have h4:=Nat.lt_of_mul_lt_mul_right h2
      rw [Nat.succ_mul] at h3
      omega) (fun j _=>Nat.pow_le_pow_right (by decide) (by unfold ofP;omega))
    refine Nat.le_trans h ?_
    rw [e]
    have zr:=Nat.two_pow_pos (kb-k)
    exact Nat.mul_le_mul_right _ (by omega)
theorem places_sum (hu:1≤u) {k:Nat} (hk:k≤l) (m:Nat):∀ {bl:List Blk},(∀ b∈bl,Bin g l u b) →
    ((sumTo (fun j=>if freeB bl ((j:Int)*((2 ^ (g+k):Nat):Int)) ((2 ^ (g+k):Nat):Int)=false then 2 ^ (g+ofP k (tP l u k) j) else 0) m:Nat):Int)≤chSum bl
  | [],_=>by
    have:sumTo (fun j=>if freeB [] ((j:Int)*((2 ^ (g+k):Nat):Int)) ((2 ^ (g+k):Nat):Int)=false then 2 ^ (g+ofP k (tP l u k) j) else 0) m=0:=by
      induction m with
      | zero=>rfl
      | succ m ih=>simp only [sumTo,ih];simp [freeB]
    rw [this];simp [chSum]
  | b::bl,h=>by
    have h1:=block_sum hu hk (h b (by simp)) m
    have h2:=places_sum hu hk m (bl:=bl) fun x hx=>h x (by simp [hx])
    have h3:sumTo (fun j=>if freeB (b::bl) ((j:Int)*((2 ^ (g+k):Nat):Int)) ((2 ^ (g+k):Nat):Int)=false then 2 ^ (g+ofP k (tP l u k) j) else 0) m ≤
        sumTo (fun j=>(if ovB ((2 ^ (g+k):Nat):Int) b j=true then 2 ^ (g+ofP k (tP l u k) j) else 0)+(if freeB bl ((j:Int)*((2 ^ (g+k):Nat):Int)) ((2 ^ (g+k):Nat):Int)=false then 2 ^ (g+ofP k (tP l u k) j) else 0)) m:=by
      refine sumTo_mono m fun j _=>?_
      have e:freeB (b::bl) ((j:Int)*((2 ^ (g+k):Nat):Int)) ((2 ^ (g+k):Nat):Int)=(!ovB ((2 ^ (g+k):Nat):Int) b j&&freeB bl ((j:Int)*((2 ^ (g+k):Nat):Int)) ((2 ^ (g+k):Nat):Int)):=rfl
      rw [e]
      cases ovB ((2 ^ (g+k):Nat):Int) b j <;> cases freeB bl ((j:Int)*((2 ^ (g+k):Nat):Int)) ((2 ^ (g+k):Nat):Int) <;> simp
    rw [sumTo_add] at h3
    rw [chSum_cons]
    have h4:=Int.ofNat_le.2 h3
    rw [Int.natCast_add] at h4
    omega
theorem low_sum (hu:1≤u) {k:Nat} (hk:k≤l) {m:Nat} {bl:List Blk} (hb:∀ b∈bl,Bin g l u b) (hm:∀ j:Nat,j<m→freeB bl ((j:Int)*((2 ^ (g+k):Nat):Int)) ((2 ^ (g+k):Nat):Int)=false) :
    ((leastN g k (tP l u k) m:Nat):Int)≤chSum bl:=by
  have h:=places_sum hu hk m hb
  have e:sumTo (fun j=>2 ^ (g+ofP k (tP l u k) j)) m≤sumTo (fun j=>if freeB bl ((j:Int)*((2 ^ (g+k):Nat):Int)) ((2 ^ (g+k):Nat):Int)=false then 2 ^ (g+ofP k (tP l u k) j) else 0) m :=
    sumTo_mono m fun j hj=>by rw [if_pos (hm j hj)];exact Nat.le_refl _
  rw [leastN_sum]
  have:=Int.ofNat_le.2 e
  omega
theorem room {c:Cf} (tp:c.Tp g l u) {k:Nat} (hk:k≤l) {bl:List Blk} (hb:∀ b∈bl,Bin g l u b) (hs:chSum bl+((2 ^ (g+k):Nat):Int)≤c.M) :
    ∃ j:Nat,lowJ c.H bl ((2 ^ (g+k):Nat):Int)=some j∧j<tP l u k*(2+k)∧((leastN g k (tP l u k) j:Nat):Int)≤chSum bl:=by
  have z:=Nat.two_pow_pos (g+k)
  have hL:=tp.ex.hL
  have f:=tp.ok.facts
  obtain ⟨_,cH,_⟩:=tp.ok.ceil (k:=(k:Int)) (by omega) (by omega)
  rw [tp.ceil hk] at cH
  have hfull:=leastN_full g k (tP l u k) (tP_pos tp.hu)
  have hM2:c.M=((tP l u k*2 ^ (g+1+k):Nat):Int):=by
    rw [tp.full hk,show g+1+k=g+k+1 by omega,Nat.pow_succ,Nat.mul_comm 2,Nat.mul_assoc]
  cases e:lowJ c.H bl ((2 ^ (g+k):Nat):Int) with
  | none =>
    exfalso
    have h:=(lowJ_none (by omega) (by omega)).1 e
    have h2:=low_sum tp.hu hk (m:=tP l u k*(2+k)) hb fun j hj=>h j (by
      have:(j+1)*2 ^ (g+k)≤tP l u k*(2+k)*2 ^ (g+k):=Nat.mul_le_mul_right _ hj
      rw [Nat.succ_mul] at this
      rw [← Int.natCast_mul];omega)
    rw [hfull,← hM2] at h2
    omega
  | some j =>
    obtain ⟨h1,h2,h3⟩:=(lowJ_some (by omega) (by omega)).1 e
    have h4:=low_sum tp.hu hk (m:=j) hb h3
    refine ⟨j,rfl,?_,h4⟩
    rcases Nat.lt_or_ge j (tP l u k*(2+k)) with h5 | h5
    · exact h5
    · exfalso
      have h6:=leastN_mono g k (tP l u k) h5
      rw [hfull] at h6
      have h7:=Int.ofNat_le.2 h6
      rw [← hM2] at h7
      omega
theorem Bin.new {k j:Nat} (hk:k≤l) (hj:j<tP l u k*(2+k)) (asked:Int):Bin g l u ⟨(j:Int)*((2 ^ (g+k):Nat):Int),((2 ^ (g+k):Nat):Int),asked⟩ :=
  ⟨k,j,hk,rfl,by rw [Int.natCast_mul],hj⟩
end
end Go.Proofs.D.S
/- The reference's model,as plain values. -/
set_option linter.unusedVariables false
namespace Go.Proofs.D.S
open Go Go.RowKit
structure Mod where
  c:Cf
  bl:List Blk
  live:Int
  peak:Int
  mark:Int
  on:List Bool
  mem:List Int
theorem charge_new {c:Cf} {g l:Nat} (ex:c.Ex g l) (live s a:Int):((newS c.G c.N c.M live s a).2≠0∧(newS c.G c.N c.M live s a).1=0)∨((newS c.G c.N c.M live s a).2=0∧live+(newS c.G c.N c.M live s a).1≤c.M∧∃ k:Nat,k≤l∧(newS c.G c.N c.M live s a).1=((2 ^ (g+k):Nat):Int)):=by
  unfold newS
  by_cases h:(chargeS c.G c.N s a).2=0
  · rw [if_pos h]
    by_cases h2:live+(chargeS c.G c.N s a).1>c.M
    · rw [if_pos h2];exact .inl ⟨by decide,rfl⟩
    · rw [if_neg h2]
      refine .inr ⟨rfl,by dsimp only;omega,?_⟩
      rw [ex.hG,ex.hN] at h ⊢
      obtain ⟨k,h1,h2,h3,_⟩:=chargeS_ok h (by omega)
      exact ⟨k-g,by omega,by rw [h3];congr 2;omega⟩
  · rw [if_neg h];exact .inl ⟨h,rfl⟩
theorem charge_many {c:Cf} {g l:Nat} (ex:c.Ex g l) (live n s:Int):((manyS c.G c.N c.M live n s).2≠0∧(manyS c.G c.N c.M live n s).1=0)∨((manyS c.G c.N c.M live n s).2=0∧live+(manyS c.G c.N c.M live n s).1≤c.M∧∃ k:Nat,k≤l∧(manyS c.G c.N c.M live n s).1=((2 ^ (g+k):Nat):Int)):=by
  unfold manyS
  by_cases h:(productS c.N n s).2=0
  · rw [if_pos h];exact charge_new ex _ _ _
  · rw [if_neg h];exact .inl ⟨h,rfl⟩
theorem Cf.Ok.pages {c:Cf} (h:c.Ok):∃ np:Nat,c.H=(np:Int)*c.Pg:=by
  obtain ⟨⟨g,l,p,q,e1,e2,e3,e4,e5,e6,e7,e8,e9⟩,h1,h2,h3,h4⟩:=h
  have z:2 ^ max (g+l) p=2 ^ p*2 ^ (max (g+l) p-p):=by rw [← Nat.pow_add];congr 1;omega
  have m2:c.M / 2=((q*2 ^ max (g+l) p:Nat):Int):=by
    rw [e7,Nat.pow_succ,← Nat.mul_assoc];omega
  refine ⟨(2+l)*(q*2 ^ (max (g+l) p-p)),?_⟩
  have hM:c.M=2*(c.M / 2):=by rw [e7,Nat.pow_succ,← Nat.mul_assoc];omega
  have:c.H=(2+(l:Int))*(c.M / 2):=by rw [h1,e3,Int.add_mul];omega
  rw [this,m2,e4,z]
  push_cast
  simp only [Int.mul_assoc,Int.mul_comm,Int.mul_left_comm]
theorem lowR_in {H n:Int} {l:List Blk} (hn:1≤n) (hH:0≤H) (h:(lowR H l n).2=true):0≤(lowR H l n).1∧(lowR H l n).1+n≤H∧freeB l (lowR H l n).1 n=true∧∃ j:Nat,lowJ H l n=some j∧(lowR H l n).1=(j:Int)*n:=by
  unfold lowR at h ⊢
  cases e:lowJ H l n with
  | none=>rw [e] at h;cases h
  | some j =>
    obtain ⟨h1,h2,h3⟩:=(lowJ_some hn hH).1 e
    exact ⟨Int.mul_nonneg (by omega) (by omega),h1,h2,j,rfl,rfl⟩
def errA (e:Int):AnsV:=⟨e,0,0,0,0,0,0,0⟩
def placeM (m:Mod) (l:List Blk) (n asked:Int):Mod×Int×Int :=
  if (lowR m.c.H l n).2=true then
    match commitP m.on (metP m.c.Pg m.on.length l) (pagesP m.c.Pg (lowR m.c.H l n).1 n).1 (pagesP m.c.Pg (lowR m.c.H l n).1 n).2 m.c.P with
    | none=>(m,0,6)
    | some (on',fr)=>(⟨m.c,putB l ⟨(lowR m.c.H l n).1,n,asked⟩,chSum (putB l ⟨(lowR m.c.H l n).1,n,asked⟩),max m.peak (chSum (putB l ⟨(lowR m.c.H l n).1,n,asked⟩)),max m.mark ((lowR m.c.H l n).1+n),on',fr.foldl (fun mem p=>fillP mem m.c.Sd p m.c.Pg) m.mem⟩,(lowR m.c.H l n).1,0)
  else (m,0,7)
def giveM (m:Mod) (o:OpV):Mod×AnsV :=
  let r:=if o.k=2 then manyS m.c.G m.c.N m.c.M m.live o.n o.s else newS m.c.G m.c.N m.c.M m.live o.s (if o.k=3 then o.a else 1)
  let s:=if o.k=2 then wrap64 (o.n*o.s) else o.s
  if r.2=0 then
    let q:=placeM m m.bl r.1 s
    if q.2.2=0 then ((if o.k=2 then { q.1 with mem:=zeroP q.1.mem q.2.1 r.1 } else q.1),⟨0,q.2.1,0,0,0,0,0,0⟩) else (m,errA q.2.2)
  else (m,errA r.2)
def ofM (m:Mod) (o:OpV) (A:Nat) (b:Blk):Mod×AnsV :=
  let rest:=m.bl.take A++m.bl.drop (A+1)
  if o.k=4 then
    let r:=newS m.c.G m.c.N m.c.M (m.live-b.ch) o.s 1
    if r.2=0 then
      let q:=placeM m rest r.1 o.s
      if q.2.2=0 then ({ q.1 with mem:=q.1.mem.take q.2.1.toNat++(m.mem.drop b.at_.toNat).take (min r.1 b.ch).toNat++q.1.mem.drop (q.2.1+min r.1 b.ch).toNat },⟨0,q.2.1,0,0,0,0,0,0⟩) else (m,errA q.2.2)
    else (m,errA r.2)
  else if o.k=5 then ({ m with bl:=rest,live:=m.live-b.ch },errA 0)
  else if o.k=6 then (m,⟨0,0,b.ch,0,0,0,0,0⟩)
  else if o.n<0∨o.n≥b.ch then (m,errA 9)
  else if o.k=7 then (m,⟨0,0,0,m.mem.getD (b.at_+o.n).toNat 0,0,0,0,0⟩)
  else ({ m with mem:=m.mem.set (b.at_+o.n).toNat o.b },errA 0)
def doM (m:Mod) (o:OpV):Mod×AnsV :=
  if o.k=1∨o.k=2∨o.k=3 then giveM m o
  else if o.k=9 then ({ m with on:=trimP m.on (metP m.c.Pg m.on.length m.bl) },⟨0,0,goneP m.on (metP m.c.Pg m.on.length m.bl) m.on.length,0,0,0,0,0⟩)
  else if o.k=10 then (m,⟨0,0,0,0,m.live,m.peak,m.mark,cnt m.on⟩)
  else if o.k=4∨o.k=5∨o.k=6∨o.k=7∨o.k=8 then
    match findB m.bl o.p with
    | some A=>ofM m o A (m.bl.getD A ⟨0,0,0⟩)
    | none=>(m,errA 8)
  else (m,errA 2)
def BlkIn (H:Int) (l:List Blk):Prop:=∀ b∈l,0≤b.at_∧1≤b.ch∧b.at_+b.ch≤H
structure Mod.Ok (m:Mod):Prop where
  c:m.c.Ok
  bl:BlkIn m.c.H m.bl
  live:m.live=chSum m.bl
  lim:m.live≤m.c.M
  peak:0≤m.peak∧m.peak≤65536
  mark:0≤m.mark∧m.mark≤65536
  on:(m.on.length:Int)*m.c.Pg=m.c.H
  mem:(m.mem.length:Int)=m.c.H
theorem chSum_app (a b:List Blk):chSum (a++b)=chSum a+chSum b:=by simp [chSum]
theorem chSum_put (b:Blk):∀ l:List Blk,chSum (putB l b)=b.ch+chSum l
  | []=>rfl
  | x::l=>by
    unfold putB
    split
    · rfl
    · rw [chSum_cons,chSum_cons,chSum_put b l];omega
theorem chSum_len {H:Int}:∀ {l:List Blk},BlkIn H l→(l.length:Int)≤chSum l
  | [],_=>by decide
  | b::l,h=>by
    have:=chSum_len (l:=l) fun x hx=>h x (by simp [hx])
    have:=h b (by simp)
    rw [chSum_cons,List.length_cons];omega
theorem fillP_len (mem:List Int) (a b c:Int):(fillP mem a b c).length=mem.length:=by unfold fillP;rw [tab_len]
theorem fills_len (a c:Int):∀ (fr:List Int) (mem:List Int),(fr.foldl (fun mem p=>fillP mem a p c) mem).length=mem.length
  | [],_=>rfl
  | p::fr,mem=>by rw [List.foldl_cons,fills_len a c fr,fillP_len]
theorem zeroP_len (mem:List Int) (a b:Int):(zeroP mem a b).length=mem.length:=by unfold zeroP;rw [tab_len]
theorem commitP_some {on met:List Bool} {f b mx:Int} {on':List Bool} {fr:List Int} (h:commitP on met f b mx=some (on',fr)):on'.length=on.length∧fr=freshP on f b on.length:=by
  unfold commitP at h
  split at h
  · cases h
  · cases h
    refine ⟨?_,rfl⟩
    split
    · rw [tab_len]
    · unfold allP;rw [tab_len]
theorem putB_in {H:Int} {l:List Blk} {b:Blk} (h:BlkIn H l) (hb:0≤b.at_∧1≤b.ch∧b.at_+b.ch≤H):BlkIn H (putB l b):=by
  intro x hx
  rcases (putB_mem b l x).1 hx with rfl | hx
  · exact hb
  · exact h x hx
end Go.Proofs.D.S
/- The model stays in order. -/
set_option linter.unusedVariables false
namespace Go.Proofs.D.S
open Go Go.RowKit
def setM (m:Mod) (l:List Blk) (a n asked:Int) (on':List Bool) (fr:List Int):Mod :=
  ⟨m.c,putB l ⟨a,n,asked⟩,chSum (putB l ⟨a,n,asked⟩),max m.peak (chSum (putB l ⟨a,n,asked⟩)),max m.mark (a+n),on',fr.foldl (fun mem p=>fillP mem m.c.Sd p m.c.Pg) m.mem⟩
theorem placeM_cases (m:Mod) (l:List Blk) {n asked:Int} (hn:1≤n) (hH:0≤m.c.H) :
    (lowR m.c.H l n).2=false∧placeM m l n asked=(m,0,7)∨placeM m l n asked=(m,0,6) ∨
      ∃ (j:Nat) (on':List Bool) (fr:List Int),lowJ m.c.H l n=some j∧0≤(j:Int)*n∧(j:Int)*n+n≤m.c.H∧freeB l ((j:Int)*n) n=true∧on'.length=m.on.length ∧
        commitP m.on (metP m.c.Pg m.on.length l) (pagesP m.c.Pg ((j:Int)*n) n).1 (pagesP m.c.Pg ((j:Int)*n) n).2 m.c.P=some (on',fr) ∧
        placeM m l n asked=(setM m l ((j:Int)*n) n asked on' fr,(j:Int)*n,0):=by
  unfold placeM
  by_cases h:(lowR m.c.H l n).2=true
  · rw [if_pos h]
    obtain ⟨a0,a1,a2,j,hj,ea⟩:=lowR_in hn hH h
    rw [ea] at a0 a1 a2 ⊢
    cases hc:commitP m.on (metP m.c.Pg m.on.length l) (pagesP m.c.Pg ((j:Int)*n) n).1 (pagesP m.c.Pg ((j:Int)*n) n).2 m.c.P with
    | none=>exact .inr (.inl rfl)
    | some p =>
      obtain ⟨on',fr⟩:=p
      exact .inr (.inr ⟨j,on',fr,hj,a0,a1,a2,(commitP_some hc).1,hc,rfl⟩)
  · rw [if_neg h];exact .inl ⟨by simpa using h,rfl⟩
theorem placeM_ok {m:Mod} (ok:m.Ok) {l:List Blk} {n asked:Int} (hn:1≤n) (hl:BlkIn m.c.H l) (hs:chSum l+n≤m.c.M) (h:(placeM m l n asked).2.2=0) :
    (placeM m l n asked).1.Ok∧(placeM m l n asked).1.c=m.c∧0≤(placeM m l n asked).2.1∧(placeM m l n asked).2.1+n≤m.c.H:=by
  have f:=ok.c.facts
  rcases placeM_cases m l (asked:=asked) hn (by omega) with ⟨_,e⟩ | e | ⟨j,on',fr,_,h0,h1,_,ho,_,e⟩
  · rw [e] at h;simp at h
  · rw [e] at h;simp at h
  · rw [e]
    have hp:=chSum_put ⟨(j:Int)*n,n,asked⟩ l
    have hll:=chSum_len hl
    refine ⟨⟨ok.c,putB_in hl ⟨h0,hn,h1⟩,rfl,?_,?_,?_,?_,?_⟩,rfl,h0,h1⟩
    · show chSum (putB l _)≤m.c.M;rw [hp];dsimp only;omega
    · have:=ok.peak
      show 0≤max m.peak (chSum (putB l _))∧max m.peak (chSum (putB l _))≤65536
      rw [hp];dsimp only;omega
    · have:=ok.mark
      show 0≤max m.mark ((j:Int)*n+n)∧max m.mark ((j:Int)*n+n)≤65536
      omega
    · show (on'.length:Int)*m.c.Pg=m.c.H
      rw [ho];exact ok.on
    · show ((fr.foldl (fun mem p=>fillP mem m.c.Sd p m.c.Pg) m.mem).length:Int)=m.c.H
      rw [fills_len];exact ok.mem
theorem chSum_rest {l:List Blk} {A:Nat} (h:A<l.length):chSum (l.take A++l.drop (A+1))+l[A].ch=chSum l:=by
  have e:l=l.take A++l[A]::l.drop (A+1):=by rw [← List.drop_eq_getElem_cons h,List.take_append_drop]
  have:chSum l=chSum (l.take A++l[A]::l.drop (A+1)):=congrArg chSum e
  rw [this,chSum_app,chSum_app,chSum_cons];omega
theorem BlkIn.rest {H:Int} {l:List Blk} (h:BlkIn H l) (A:Nat):BlkIn H (l.take A++l.drop (A+1)):=by
  intro b hb
  rcases List.mem_append.1 hb with hb | hb
  · exact h b (List.mem_of_mem_take hb)
  · exact h b (List.mem_of_mem_drop hb)
theorem findB_lt:∀ {l:List Blk} {a:Int} {i:Nat},findB l a=some i→∃ h:i<l.length,l[i].at_=a
  | [],a,i,h=>by cases h
  | x::l,a,i,h=>by
    unfold findB at h
    by_cases e:x.at_=a
    · rw [if_pos e] at h;cases h;exact ⟨by simp,e⟩
    · rw [if_neg e] at h
      obtain ⟨j,hj,rfl⟩:=Option.map_eq_some_iff.1 h
      obtain ⟨h1,h2⟩:=findB_lt hj
      exact ⟨by simpa using h1,by simpa using h2⟩
theorem giveM_ok {m:Mod} (ok:m.Ok) (o:OpV):(giveM m o).1.Ok∧(giveM m o).1.c=m.c:=by
  obtain ⟨g,l,ex⟩:=ok.c.exs
  unfold giveM
  dsimp only
  have hr:∀ r:Int×Int,(r.2≠0∧r.1=0)∨(r.2=0∧m.live+r.1≤m.c.M∧∃ k:Nat,k≤l∧r.1=((2 ^ (g+k):Nat):Int)) →
      ∀ s:Int,(if r.2=0 then (if (placeM m m.bl r.1 s).2.2=0 then ((if o.k=2 then { (placeM m m.bl r.1 s).1 with mem:=zeroP (placeM m m.bl r.1 s).1.mem (placeM m m.bl r.1 s).2.1 r.1 } else (placeM m m.bl r.1 s).1),(⟨0,(placeM m m.bl r.1 s).2.1,0,0,0,0,0,0⟩:AnsV)) else (m,errA (placeM m m.bl r.1 s).2.2)) else (m,errA r.2)).1.Ok ∧
        (if r.2=0 then (if (placeM m m.bl r.1 s).2.2=0 then ((if o.k=2 then { (placeM m m.bl r.1 s).1 with mem:=zeroP (placeM m m.bl r.1 s).1.mem (placeM m m.bl r.1 s).2.1 r.1 } else (placeM m m.bl r.1 s).1),(⟨0,(placeM m m.bl r.1 s).2.1,0,0,0,0,0,0⟩:AnsV)) else (m,errA (placeM m m.bl r.1 s).2.2)) else (m,errA r.2)).1.c=m.c:=by
    intro r hr s
    rcases hr with ⟨h,_⟩ | ⟨h,hM,k,hk,he⟩
    · rw [if_neg h];exact ⟨ok,rfl⟩
    · rw [if_pos h]
      have z:=Nat.two_pow_pos (g+k)
      by_cases hq:(placeM m m.bl r.1 s).2.2=0
      · rw [if_pos hq]
        obtain ⟨k1,k2,k3,k4⟩:=placeM_ok ok (by omega) ok.bl (by rw [← ok.live];exact hM) hq
        by_cases h2:o.k=2
        · simp only [if_pos h2]
          exact ⟨⟨k1.c,k1.bl,k1.live,k1.lim,k1.peak,k1.mark,k1.on,by dsimp only;rw [zeroP_len];exact k1.mem⟩,k2⟩
        · simp only [if_neg h2];exact ⟨k1,k2⟩
      · rw [if_neg hq];exact ⟨ok,rfl⟩
  refine hr _ ?_ _
  by_cases h2:o.k=2
  · rw [if_pos h2];exact charge_many ex _ _ _
  · rw [if_neg h2];exact charge_new ex _ _ _
theorem ofM_ok {m:Mod} (ok:m.Ok) (o:OpV) {A:Nat} (hA:A<m.bl.length):(ofM m o A m.bl[A]).1.Ok∧(ofM m o A m.bl[A]).1.c=m.c:=by
  obtain ⟨g,l,ex⟩:=ok.c.exs
  have hb:=ok.bl _ (List.getElem_mem hA)
  have hrest:=chSum_rest hA
  have hin:=ok.bl.rest A
  have hlen:=chSum_len hin
  have f:=ok.c.facts
  have hmem:=ok.mem
  have hlive:=ok.live
  have hlim:=ok.lim
  unfold ofM
  dsimp only
  by_cases h4:o.k=4
  · rw [if_pos h4]
    rcases charge_new ex (m.live-m.bl[A].ch) o.s 1 with ⟨h,_⟩ | ⟨h,hM,k,hk,he⟩
    · rw [if_neg h];exact ⟨ok,rfl⟩
    · rw [if_pos h]
      have z:=Nat.two_pow_pos (g+k)
      by_cases hq:(placeM m (m.bl.take A++m.bl.drop (A+1)) (newS m.c.G m.c.N m.c.M (m.live-m.bl[A].ch) o.s 1).1 o.s).2.2=0
      · rw [if_pos hq]
        obtain ⟨k1,k2,k3,k4⟩:=placeM_ok ok (by omega) hin (by omega) hq
        have km:((placeM m (m.bl.take A++m.bl.drop (A+1)) (newS m.c.G m.c.N m.c.M (m.live-m.bl[A].ch) o.s 1).1 o.s).1.mem.length:Int)=m.c.H:=k1.mem.trans (congrArg Cf.H k2)
        refine ⟨⟨k1.c,k1.bl,k1.live,k1.lim,k1.peak,k1.mark,k1.on,?_⟩,k2⟩
        dsimp only
        rw [k2]
        generalize placeM m (m.bl.take A++m.bl.drop (A+1)) (newS m.c.G m.c.N m.c.M (m.live-m.bl[A].ch) o.s 1).1 o.s=q at *
        generalize (newS m.c.G m.c.N m.c.M (m.live-m.bl[A].ch) o.s 1).1=r at *
        simp only [List.length_append,List.length_take,List.length_drop]
        omega
      · rw [if_neg hq];exact ⟨ok,rfl⟩
  · rw [if_neg h4]
    by_cases h5:o.k=5
    · rw [if_pos h5]
      exact ⟨⟨ok.c,hin,by dsimp only;omega,by dsimp only;omega,ok.peak,ok.mark,ok.on,ok.mem⟩,rfl⟩
    · rw [if_neg h5]
      split
      · exact ⟨ok,rfl⟩
      · split
        · exact ⟨ok,rfl⟩
        · split
          · exact ⟨ok,rfl⟩
          · exact ⟨⟨ok.c,ok.bl,ok.live,ok.lim,ok.peak,ok.mark,ok.on,by dsimp only;rw [List.length_set];exact ok.mem⟩,rfl⟩
theorem doM_ok {m:Mod} (ok:m.Ok) (o:OpV):(doM m o).1.Ok∧(doM m o).1.c=m.c:=by
  unfold doM
  split
  · exact giveM_ok ok o
  · split
    · exact ⟨⟨ok.c,ok.bl,ok.live,ok.lim,ok.peak,ok.mark,by dsimp only;unfold trimP;rw [tab_len];exact ok.on,ok.mem⟩,rfl⟩
    · split
      · exact ⟨ok,rfl⟩
      · split
        · cases h:findB m.bl o.p with
          | none=>exact ⟨ok,rfl⟩
          | some A =>
            obtain ⟨hA,_⟩:=findB_lt h
            dsimp only
            rw [getD_lt _ hA]
            exact ofM_ok ok o hA
        · exact ⟨ok,rfl⟩
def newM (c:Cf):Mod:=⟨c,[],0,0,0,tab (c.H / c.Pg).toNat fun _=>false,tab c.H.toNat fun _=>0⟩
theorem newM_ok {c:Cf} (ok:c.Ok):(newM c).Ok:=by
  have f:=ok.facts
  obtain ⟨np,hnp⟩:=ok.pages
  have e:c.H / c.Pg=np:=by rw [hnp,Int.mul_ediv_cancel _ (by omega)]
  refine ⟨ok,(fun b hb=>(by cases hb)),rfl,(by show (0:Int)≤c.M;omega),(by show (0:Int)≤0∧(0:Int)≤65536;omega),(by show (0:Int)≤0∧(0:Int)≤65536;omega),?_,?_⟩
  · show ((tab (c.H / c.Pg).toNat fun _=>false).length:Int)*c.Pg=c.H
    rw [tab_len,e,Int.toNat_natCast,hnp]
  · show ((tab c.H.toNat fun _=>(0:Int)).length:Int)=c.H
    rw [tab_len];omega
end Go.Proofs.D.S
/- Blocks that lie apart. -/
set_option linter.unusedVariables false
namespace Go.Proofs.D.S
open Go Go.RowKit
def Srt (l:List Blk):Prop:=l.Pairwise fun a b=>a.at_+a.ch≤b.at_
theorem putB_perm (b:Blk):∀ l:List Blk,(putB l b).Perm (b::l)
  | []=>.refl _
  | x::l=>by
    unfold putB
    split
    · exact .refl _
    · exact ((putB_perm b l).cons x).trans (.swap _ _ _)
theorem over_false {a n b m:Int} (h:over a n b m=false):b+m≤a∨a+n≤b:=by
  unfold over at h
  by_cases h1:a<b+m
  · right
    rw [decide_eq_true h1,Bool.true_and] at h
    have:=of_decide_eq_false h
    omega
  · left;omega
theorem freeB_apart {l:List Blk} {a n:Int} (h:freeB l a n=true):∀ b∈l,b.at_+b.ch≤a∨a+n≤b.at_:=by
  intro b hb
  have:=List.all_eq_true.1 h b hb
  simp only [Bool.not_eq_true'] at this
  exact over_false this
theorem srt_put {a n asked:Int} (hn:1≤n):∀ {l:List Blk},Srt l→(∀ b∈l,1≤b.ch)→freeB l a n=true→Srt (putB l ⟨a,n,asked⟩)
  | [],_,_,_=>by unfold putB Srt;simp
  | x::l,s,hc,f=>by
    obtain ⟨s1,s2⟩:=List.pairwise_cons.1 s
    have hx:=freeB_apart f x (by simp)
    have cx:=hc x (by simp)
    unfold putB
    by_cases h:x.at_>a
    · rw [if_pos h]
      refine List.pairwise_cons.2 ⟨fun b hb=>?_,s⟩
      dsimp only
      rcases List.mem_cons.1 hb with rfl | hb
      · omega
      · have:=s1 b hb;omega
    · rw [if_neg h]
      have f2:freeB l a n=true:=by
        unfold freeB at f ⊢
        rw [List.all_cons,Bool.and_eq_true] at f
        exact f.2
      have h2:x.at_+x.ch≤a:=by omega
      refine List.pairwise_cons.2 ⟨fun b hb=>?_,srt_put hn s2 (fun b hb=>hc b (by simp [hb])) f2⟩
      rcases (putB_mem _ _ _).1 hb with rfl | hb
      · exact h2
      · exact s1 b hb
theorem Srt.put {a n asked:Int} {l:List Blk} (s:Srt l) (hn:1≤n) (h:∀ b∈l,1≤b.ch) (f:freeB l a n=true):Srt (putB l ⟨a,n,asked⟩):=srt_put hn s h f
theorem Srt.rest {l:List Blk} (s:Srt l) (A:Nat):Srt (l.take A++l.drop (A+1)):=by
  have e:(l.take A++l.drop (A+1)).Sublist l:=by
    have h2:(l.drop (A+1)).Sublist (l.drop A):=by
      rw [← List.drop_drop];exact List.drop_sublist _ _
    have h:=(List.Sublist.refl (l.take A)).append h2
    rwa [List.take_append_drop] at h
  exact s.sublist e
theorem rest_perm {l:List Blk} {A:Nat} (h:A<l.length):l.Perm (l[A]::(l.take A++l.drop (A+1))):=by
  have e:l=l.take A++l[A]::l.drop (A+1):=by rw [← List.drop_eq_getElem_cons h,List.take_append_drop]
  have p:(l.take A++l[A]::l.drop (A+1)).Perm (l[A]::(l.take A++l.drop (A+1))):=List.perm_middle
  rw [← e] at p
  exact p
theorem sum_perm {a b:List Int} (p:a.Perm b):a.sum=b.sum:=by
  induction p with
  | nil=>rfl
  | cons x _ ih=>rw [List.sum_cons,List.sum_cons,ih]
  | swap x y l=>simp only [List.sum_cons];omega
  | trans _ _ h1 h2=>exact h1.trans h2
theorem chSum_perm {a b:List Blk} (p:a.Perm b):chSum a=chSum b:=by
  unfold chSum;exact sum_perm (p.map Blk.ch)
theorem findB_mem:∀ {l:List Blk} {b:Blk},Srt l→(∀ b∈l,1≤b.ch)→b∈l→∃ A,∃ h:A<l.length,findB l b.at_=some A∧l[A]=b
  | [],b,_,_,h=>by cases h
  | x::l,b,s,hc,h=>by
    obtain ⟨s1,s2⟩:=List.pairwise_cons.1 s
    rcases List.mem_cons.1 h with rfl | h
    · exact ⟨0,by simp,by unfold findB;rw [if_pos rfl],rfl⟩
    · obtain ⟨A,hA,e1,e2⟩:=findB_mem s2 (fun y hy=>hc y (by simp [hy])) h
      have c1:=s1 b h
      have c2:=hc x (by simp)
      exact ⟨A+1,by simpa using hA,by unfold findB;rw [if_neg (by omega),e1];rfl,by simpa using e2⟩
end Go.Proofs.D.S
/- Blocks below their ceilings: what the model places lies there. -/
set_option linter.unusedVariables false
namespace Go.Proofs.D.S
open Go Go.RowKit
theorem Bin.in {c:Cf} {g l u:Nat} (tp:c.Tp g l u) {b:Blk} (h:Bin g l u b):inC c g l b=true:=by
  obtain ⟨k,a,hk,hch,hat,ha⟩:=h
  unfold inC
  rw [hch,shiftS_pow hk]
  have e:=tp.ceil hk
  have h1:(a+1)*2 ^ (g+k)≤tP l u k*(2+k)*2 ^ (g+k):=Nat.mul_le_mul_right _ ha
  rw [Nat.succ_mul] at h1
  have h2:¬ b.at_>c.ceil (k:Int)-((2 ^ (g+k):Nat):Int):=by rw [e,hat];omega
  rw [decide_eq_false h2];rfl
theorem Bin.ok {c:Cf} {g l u:Nat} (tp:c.Tp g l u) {b:Blk} (h:Bin g l u b):0≤b.at_∧b.at_≤65536∧1≤b.ch∧b.ch≤65536:=by
  obtain ⟨k,a,hk,hch,hat,ha⟩:=h
  have z:=Nat.two_pow_pos (g+k)
  have hs:=tp.small hk
  have h1:(a+1)*2 ^ (g+k)≤tP l u k*(2+k)*2 ^ (g+k):=Nat.mul_le_mul_right _ ha
  rw [Nat.succ_mul] at h1
  rw [hch,hat];omega
theorem Bin.all {c:Cf} {g l u:Nat} (tp:c.Tp g l u) {bl:List Blk} (h:∀ b∈bl,Bin g l u b):bl.all (inC c g l)=true∧BlkOk bl:=by
  refine ⟨List.all_eq_true.2 fun b hb=>(h b hb).in tp,fun b hb=>?_⟩
  have:=(h b hb).ok tp
  omega
theorem chargeS_ne7 (G N s a:Int):(chargeS G N s a).2≠7:=by
  unfold chargeS
  by_cases h1:(logS a).2=false∨a>N
  · rw [if_pos h1];show (3:Int)≠7;decide
  · rw [if_neg h1]
    by_cases h2:s<0∨s>N
    · rw [if_pos h2];show (4:Int)≠7;decide
    · rw [if_neg h2];show (0:Int)≠7;decide
theorem newS_ne7 (G N M live s a:Int):(newS G N M live s a).2≠7:=by
  unfold newS
  by_cases h:(chargeS G N s a).2=0
  · rw [if_pos h]
    by_cases h2:live+(chargeS G N s a).1>M
    · rw [if_pos h2];show (5:Int)≠7;decide
    · rw [if_neg h2];show (0:Int)≠7;decide
  · rw [if_neg h];exact chargeS_ne7 _ _ _ _
theorem manyS_ne7 (G N M live n s:Int):(manyS G N M live n s).2≠7:=by
  unfold manyS
  by_cases h:(productS N n s).2=0
  · rw [if_pos h];exact newS_ne7 _ _ _ _ _ _
  · rw [if_neg h]
    unfold productS
    by_cases h1:n<0∨s<0
    · rw [if_pos h1];show (2:Int)≠7;decide
    · rw [if_neg h1]
      by_cases h2:n*s>N
      · rw [if_pos h2];show (4:Int)≠7;decide
      · rw [if_neg h2];show (0:Int)≠7;decide
theorem findB_put {n a asked:Int} (hn:1≤n):∀ (l:List Blk),(∀ b∈l,1≤b.ch)→freeB l a n=true→∃ (i:Nat) (b:Blk),findB (putB l ⟨a,n,asked⟩) a=some i∧(putB l ⟨a,n,asked⟩)[i]? = some b∧b.ch=n
  | [],_,_=>⟨0,⟨a,n,asked⟩,by simp [putB,findB],rfl,rfl⟩
  | x::l,h,f=>by
    unfold freeB at f
    rw [List.all_cons,Bool.and_eq_true] at f
    have hx:=h x (by simp)
    have ne:x.at_≠a:=by
      intro e
      have:=f.1
      unfold over at this
      rw [e,decide_eq_true (show a<a+x.ch by omega),decide_eq_true (show a<a+n by omega)] at this
      exact absurd this (by decide)
    by_cases hg:x.at_>a
    · have e:putB (x::l) ⟨a,n,asked⟩ = ⟨a,n,asked⟩::x::l:=by simp only [putB,if_pos hg]
      rw [e]
      exact ⟨0,⟨a,n,asked⟩,by simp [findB],rfl,rfl⟩
    · have e:putB (x::l) ⟨a,n,asked⟩ = x::putB l ⟨a,n,asked⟩:=by simp only [putB,if_neg hg]
      rw [e]
      obtain ⟨i,b,h1,h2,h3⟩:=findB_put (asked:=asked) hn l (fun b hb=>h b (by simp [hb])) f.2
      refine ⟨i+1,b,?_,by simpa using h2,h3⟩
      unfold findB
      rw [if_neg ne,h1];rfl
variable {g l u:Nat}
theorem placeM_bin {m:Mod} (tp:m.c.Tp g l u) (ok:m.Ok) {bl:List Blk} (hin:BlkIn m.c.H bl) (hb:∀ b∈bl,Bin g l u b) {k:Nat} (hk:k≤l) (hs:chSum bl+((2 ^ (g+k):Nat):Int)≤m.c.M) (asked:Int) :
    (placeM m bl ((2 ^ (g+k):Nat):Int) asked).2.2≠7∧((placeM m bl ((2 ^ (g+k):Nat):Int) asked).2.2=0 →
      (∀ b∈(placeM m bl ((2 ^ (g+k):Nat):Int) asked).1.bl,Bin g l u b)∧∃ (j i:Nat) (b:Blk),(placeM m bl ((2 ^ (g+k):Nat):Int) asked).2.1=((j*2 ^ (g+k):Nat):Int)∧(((j+1)*2 ^ (g+k):Nat):Int)≤m.c.H∧((leastN g k (tP l u k) j:Nat):Int)≤chSum bl ∧
        findB (placeM m bl ((2 ^ (g+k):Nat):Int) asked).1.bl (placeM m bl ((2 ^ (g+k):Nat):Int) asked).2.1=some i∧(placeM m bl ((2 ^ (g+k):Nat):Int) asked).1.bl[i]? = some b∧b.ch=((2 ^ (g+k):Nat):Int)):=by
  have z:=Nat.two_pow_pos (g+k)
  have f:=ok.c.facts
  obtain ⟨j,hj1,hj2,hj3⟩:=room tp hk hb hs
  have hfree:=(lowJ_some (by omega) (by omega)).1 hj1
  rcases placeM_cases m bl (n:=((2 ^ (g+k):Nat):Int)) (asked:=asked) (by omega) (by omega) with ⟨e,_⟩ | e | ⟨j',on',fr,h1,h2,h3,h4,_,_,e⟩
  · unfold lowR at e;rw [hj1] at e;cases e
  · rw [e];exact ⟨by dsimp only;decide,fun h=>absurd h (by dsimp only;decide)⟩
  · rw [hj1] at h1
    cases h1
    rw [e]
    refine ⟨by dsimp only;decide,fun _=>⟨?_,?_⟩⟩
    · intro b hbm
      rcases (putB_mem _ _ _).1 hbm with rfl | hbm
      · exact Bin.new hk hj2 asked
      · exact hb b hbm
    · obtain ⟨i,b,q1,q2,q3⟩:=findB_put (asked:=asked) (show 1≤((2 ^ (g+k):Nat):Int) by omega) bl (fun b hb=>(hin b hb).2.1) h4
      refine ⟨j,i,b,by dsimp only;rw [Int.natCast_mul],?_,hj3,q1,q2,q3⟩
      rw [← Int.natCast_mul] at h3
      rw [Nat.succ_mul,Int.natCast_add]
      exact h3
def GoodStep (g l u:Nat) (m:Mod) (o:OpV) (r:Mod×AnsV):Prop :=
  r.2.err≠7∧(∀ b∈r.1.bl,Bin g l u b)∧((o.k=1∨o.k=2∨o.k=3)→r.2.err=0→∃ (k j i:Nat) (b:Blk),k≤l∧r.2.at_=((j*2 ^ (g+k):Nat):Int)∧(((j+1)*2 ^ (g+k):Nat):Int)≤m.c.H∧((leastN g k (tP l u k) j:Nat):Int)≤chSum m.bl ∧
    findB r.1.bl r.2.at_=some i∧r.1.bl[i]? = some b∧b.ch=((2 ^ (g+k):Nat):Int))
theorem giveM_good {m:Mod} (tp:m.c.Tp g l u) (ok:m.Ok) (hb:∀ b∈m.bl,Bin g l u b) (o:OpV) (ho:o.k=1∨o.k=2∨o.k=3):GoodStep g l u m o (giveM m o):=by
  unfold giveM
  dsimp only
  have hr:∀ r:Int×Int,r.2≠7→((r.2≠0∧r.1=0)∨(r.2=0∧m.live+r.1≤m.c.M∧∃ k:Nat,k≤l∧r.1=((2 ^ (g+k):Nat):Int))) →
      ∀ s:Int,GoodStep g l u m o (if r.2=0 then (if (placeM m m.bl r.1 s).2.2=0 then ((if o.k=2 then { (placeM m m.bl r.1 s).1 with mem:=zeroP (placeM m m.bl r.1 s).1.mem (placeM m m.bl r.1 s).2.1 r.1 } else (placeM m m.bl r.1 s).1),(⟨0,(placeM m m.bl r.1 s).2.1,0,0,0,0,0,0⟩:AnsV)) else (m,errA (placeM m m.bl r.1 s).2.2)) else (m,errA r.2)):=by
    intro r h7 hr s
    rcases hr with ⟨h,_⟩ | ⟨h,hM,k,hk,he⟩
    · rw [if_neg h];exact ⟨h7,hb,fun _ h0=>absurd h0 h⟩
    · rw [if_pos h,he]
      rw [ok.live,he] at hM
      obtain ⟨p7,pz⟩:=placeM_bin tp ok ok.bl hb hk hM s
      by_cases hq:(placeM m m.bl ((2 ^ (g+k):Nat):Int) s).2.2=0
      · rw [if_pos hq]
        obtain ⟨b1,j,i,b,q1,q2,q3,q4,q5,q6⟩:=pz hq
        have eb:(if o.k=2 then { (placeM m m.bl ((2 ^ (g+k):Nat):Int) s).1 with mem:=zeroP (placeM m m.bl ((2 ^ (g+k):Nat):Int) s).1.mem (placeM m m.bl ((2 ^ (g+k):Nat):Int) s).2.1 ((2 ^ (g+k):Nat):Int) } else (placeM m m.bl ((2 ^ (g+k):Nat):Int) s).1:Mod).bl=(placeM m m.bl ((2 ^ (g+k):Nat):Int) s).1.bl:=by split <;> rfl
        refine ⟨by show (0:Int)≠7;decide,?_,fun _ _=>⟨k,j,i,b,hk,q1,q2,q3,?_,?_,q6⟩⟩
        · dsimp only;rw [eb];exact b1
        · dsimp only;rw [eb];exact q4
        · dsimp only;rw [eb];exact q5
      · rw [if_neg hq];exact ⟨p7,hb,fun _ h0=>absurd h0 hq⟩
  refine hr _ ?_ ?_ _
  · by_cases h2:o.k=2
    · rw [if_pos h2];exact manyS_ne7 _ _ _ _ _ _
    · rw [if_neg h2];exact newS_ne7 _ _ _ _ _ _
  · by_cases h2:o.k=2
    · rw [if_pos h2];exact charge_many tp.ex _ _ _
    · rw [if_neg h2];exact charge_new tp.ex _ _ _
theorem ofM_good {m:Mod} (tp:m.c.Tp g l u) (ok:m.Ok) (hb:∀ b∈m.bl,Bin g l u b) (o:OpV) (ho:¬ (o.k=1∨o.k=2∨o.k=3)) {A:Nat} (hA:A<m.bl.length):GoodStep g l u m o (ofM m o A m.bl[A]):=by
  have hrest:=chSum_rest hA
  have hbr:∀ b∈m.bl.take A++m.bl.drop (A+1),Bin g l u b:=by
    intro b h
    rcases List.mem_append.1 h with h | h
    · exact hb b (List.mem_of_mem_take h)
    · exact hb b (List.mem_of_mem_drop h)
  have z0:(0:Int)≠7:=by decide
  unfold ofM
  dsimp only
  by_cases h4:o.k=4
  · rw [if_pos h4]
    rcases charge_new tp.ex (m.live-m.bl[A].ch) o.s 1 with ⟨h,_⟩ | ⟨h,hM,k,hk,he⟩
    · rw [if_neg h];exact ⟨newS_ne7 _ _ _ _ _ _,hb,fun h=>absurd h ho⟩
    · rw [if_pos h,he]
      have hl:=ok.live
      rw [he] at hM
      obtain ⟨p7,pz⟩:=placeM_bin tp ok (ok.bl.rest A) hbr hk (by omega) o.s
      by_cases hq:(placeM m (m.bl.take A++m.bl.drop (A+1)) ((2 ^ (g+k):Nat):Int) o.s).2.2=0
      · rw [if_pos hq];exact ⟨z0,(pz hq).1,fun h=>absurd h ho⟩
      · rw [if_neg hq];exact ⟨p7,hb,fun h=>absurd h ho⟩
  · rw [if_neg h4]
    by_cases h5:o.k=5
    · rw [if_pos h5];exact ⟨z0,hbr,fun h=>absurd h ho⟩
    · rw [if_neg h5]
      split
      · exact ⟨z0,hb,fun h=>absurd h ho⟩
      · split
        · exact ⟨by show (9:Int)≠7;decide,hb,fun h=>absurd h ho⟩
        · split
          · exact ⟨z0,hb,fun h=>absurd h ho⟩
          · exact ⟨z0,hb,fun h=>absurd h ho⟩
theorem doM_good {m:Mod} (tp:m.c.Tp g l u) (ok:m.Ok) (hb:∀ b∈m.bl,Bin g l u b) (o:OpV):GoodStep g l u m o (doM m o):=by
  have z0:(0:Int)≠7:=by decide
  unfold doM
  by_cases ho:o.k=1∨o.k=2∨o.k=3
  · rw [if_pos ho];exact giveM_good tp ok hb o ho
  · rw [if_neg ho]
    split
    · exact ⟨z0,hb,fun h=>absurd h ho⟩
    · split
      · exact ⟨z0,hb,fun h=>absurd h ho⟩
      · split
        · cases h:findB m.bl o.p with
          | none=>exact ⟨by show (8:Int)≠7;decide,hb,fun h=>absurd h ho⟩
          | some A =>
            obtain ⟨hA,_⟩:=findB_lt h
            dsimp only
            rw [getD_lt _ hA]
            exact ofM_good tp ok hb o ho hA
        · exact ⟨by show (2:Int)≠7;decide,hb,fun h=>absurd h ho⟩
end Go.Proofs.D.S
/- Maps as rows of pairs. -/
set_option linter.unusedVariables false
namespace Go.Proofs.D.S
open Go
section
variable {κ β:Type}
def NoDup (l:List (κ×β)):Prop:=l.Pairwise fun a b=>a.1≠b.1
theorem NoDup.perm {l l':List (κ×β)} (d:NoDup l) (p:l.Perm l'):NoDup l':=(p.pairwise_iff (R:=fun a b:κ×β=>a.1≠b.1) (fun {a b} h=>Ne.symm h)).1 d
end
section
variable {κ β:Type} [DecidableEq κ]
def aGet:List (κ×β)→κ→Option β
  | [],_=>none
  | (a,b)::l,k=>if a=k then some b else aGet l k
def aPut:List (κ×β)→κ→β→List (κ×β)
  | [],k,x=>[(k,x)]
  | (a,b)::l,k,x=>if a=k then (k,x)::l else (a,b)::aPut l k x
def aDel:List (κ×β)→κ→List (κ×β)
  | [],_=>[]
  | (a,b)::l,k=>if a=k then l else (a,b)::aDel l k
def encM (ek:κ→V1) (ev:β→V1) (l:List (κ×β)):List (V1×V1):=l.map fun x=>(ek x.1,ev x.2)
variable {ek:κ→V1} {ev:β→V1}
theorem mapGet_enc (hk:∀ a b,ek a=ek b→a=b) (k:κ):∀ l:List (κ×β),mapGet (encM ek ev l) (ek k)=(aGet l k).map ev
  | []=>rfl
  | (a,b)::l=>by
    show (if ek a=ek k then some (ev b) else mapGet (encM ek ev l) (ek k))=(if a=k then some b else aGet l k).map ev
    by_cases h:a=k
    · rw [if_pos (by rw [h]),if_pos h];rfl
    · rw [if_neg (fun e=>h (hk _ _ e)),if_neg h,mapGet_enc hk k l]
theorem mapPut_enc (hk:∀ a b,ek a=ek b→a=b) (k:κ) (x:β):∀ l:List (κ×β),mapPut (encM ek ev l) (ek k) (ev x)=encM ek ev (aPut l k x)
  | []=>rfl
  | (a,b)::l=>by
    show (if ek a=ek k then (ek k,ev x)::encM ek ev l else (ek a,ev b)::mapPut (encM ek ev l) (ek k) (ev x))=encM ek ev (if a=k then (k,x)::l else (a,b)::aPut l k x)
    by_cases h:a=k
    · rw [if_pos (by rw [h]),if_pos h];rfl
    · rw [if_neg (fun e=>h (hk _ _ e)),if_neg h,mapPut_enc hk k x l];rfl
theorem mapDel_enc (hk:∀ a b,ek a=ek b→a=b) (k:κ):∀ l:List (κ×β),mapDel (encM ek ev l) (ek k)=encM ek ev (aDel l k)
  | []=>rfl
  | (a,b)::l=>by
    show (if ek a=ek k then encM ek ev l else (ek a,ev b)::mapDel (encM ek ev l) (ek k))=encM ek ev (if a=k then l else (a,b)::aDel l k)
    by_cases h:a=k
    · rw [if_pos (by rw [h]),if_pos h]
    · rw [if_neg (fun e=>h (hk _ _ e)),if_neg h,mapDel_enc hk k l];rfl
theorem aGet_mem {k:κ} {x:β}:∀ {l:List (κ×β)},aGet l k=some x→(k,x)∈l
  | [],h=>by cases h
  | (a,b)::l,h=>by
    unfold aGet at h
    by_cases e:a=k
    · rw [if_pos e] at h;cases h;subst e;simp
    · rw [if_neg e] at h;exact List.mem_cons_of_mem _ (aGet_mem h)
theorem aGet_of {k:κ} {x:β}:∀ {l:List (κ×β)},NoDup l→(k,x)∈l→aGet l k=some x
  | [],_,h=>by cases h
  | (a,b)::l,d,h=>by
    obtain ⟨d1,d2⟩:=List.pairwise_cons.1 d
    unfold aGet
    rcases List.mem_cons.1 h with e | h
    · cases e;rw [if_pos rfl]
    · rw [if_neg (d1 _ h)];exact aGet_of d2 h
theorem aGet_none {k:κ}:∀ {l:List (κ×β)},aGet l k=none↔∀ x∈l,x.1≠k
  | []=>by simp [aGet]
  | (a,b)::l=>by
    unfold aGet
    by_cases e:a=k
    · rw [if_pos e];simp [e]
    · rw [if_neg e,aGet_none];simp [e]
theorem aPut_new {k:κ} {x:β}:∀ {l:List (κ×β)},aGet l k=none→aPut l k x=l++[(k,x)]
  | [],_=>rfl
  | (a,b)::l,h=>by
    unfold aGet at h
    by_cases e:a=k
    · rw [if_pos e] at h;cases h
    · rw [if_neg e] at h
      unfold aPut
      rw [if_neg e,aPut_new h];rfl
theorem aDel_perm {k:κ} {x:β}:∀ {l:List (κ×β)},aGet l k=some x→l.Perm ((k,x)::aDel l k)
  | [],h=>by cases h
  | (a,b)::l,h=>by
    unfold aGet at h
    unfold aDel
    by_cases e:a=k
    · rw [if_pos e] at h;cases h;subst e;rw [if_pos rfl]
    · rw [if_neg e] at h
      rw [if_neg e]
      exact ((aDel_perm h).cons (a,b)).trans (.swap _ _ _)
theorem aDel_none {k:κ}:∀ {l:List (κ×β)},aGet l k=none→aDel l k=l
  | [],_=>rfl
  | (a,b)::l,h=>by
    unfold aGet at h
    by_cases e:a=k
    · rw [if_pos e] at h;cases h
    · rw [if_neg e] at h
      unfold aDel
      rw [if_neg e,aDel_none h]
theorem NoDup.del {l:List (κ×β)} (d:NoDup l) (k:κ):NoDup (aDel l k):=by
  cases h:aGet l k with
  | none=>rw [aDel_none h];exact d
  | some x=>exact (List.pairwise_cons.1 (d.perm (aDel_perm h))).2
theorem aDel_ne {l:List (κ×β)} (d:NoDup l) {k:κ} {y:κ×β} (h:y∈aDel l k):y.1≠k∧y∈l:=by
  cases e:aGet l k with
  | none=>rw [aDel_none e] at h;exact ⟨aGet_none.1 e y h,h⟩
  | some x =>
    have p:=aDel_perm e
    obtain ⟨d1,_⟩:=List.pairwise_cons.1 (d.perm p)
    exact ⟨fun e2=>d1 _ h e2.symm,p.mem_iff.2 (List.mem_cons_of_mem _ h)⟩
theorem aGet_del {l:List (κ×β)} (d:NoDup l) (k k':κ):aGet (aDel l k) k' = if k' = k then none else aGet l k':=by
  by_cases h:k' = k
  · rw [if_pos h,h];exact aGet_none.2 fun y hy=>(aDel_ne d hy).1
  · rw [if_neg h]
    cases e:aGet l k' with
    | none=>exact aGet_none.2 fun y hy=>aGet_none.1 e y (aDel_ne d hy).2
    | some x =>
      refine aGet_of (d.del k) ?_
      have hm:=aGet_mem e
      cases e2:aGet l k with
      | none=>rw [aDel_none e2];exact hm
      | some z =>
        rcases List.mem_cons.1 ((aDel_perm e2).mem_iff.1 hm) with e3 | e3
        · cases e3;exact absurd rfl h
        · exact e3
theorem aGet_put (k:κ) (x:β) (k':κ):∀ l:List (κ×β),aGet (aPut l k x) k' = if k' = k then some x else aGet l k'
  | []=>by
    unfold aPut aGet
    by_cases h:k=k'
    · rw [if_pos h,if_pos h.symm]
    · rw [if_neg h,if_neg (fun e=>h e.symm)];rfl
  | (a,b)::l=>by
    unfold aPut
    by_cases h:a=k
    · rw [if_pos h]
      unfold aGet
      by_cases h2:k=k'
      · rw [if_pos h2,if_pos h2.symm]
      · rw [if_neg h2,if_neg (fun e=>h2 e.symm),if_neg (fun e=>h2 (h.symm.trans e))]
    · rw [if_neg h]
      unfold aGet
      by_cases h2:a=k'
      · rw [if_pos h2,if_neg (fun e=>h (h2.trans e)),if_pos h2]
      · rw [if_neg h2,aGet_put k x k' l,if_neg h2]
theorem noDup_put {k:κ} {x:β}:∀ {l:List (κ×β)},NoDup l→NoDup (aPut l k x)
  | [],_=>by unfold aPut;exact List.pairwise_cons.2 ⟨by simp,List.Pairwise.nil⟩
  | (a,b)::l,d=>by
    obtain ⟨d1,d2⟩:=List.pairwise_cons.1 d
    unfold aPut
    by_cases h:a=k
    · rw [if_pos h];exact List.pairwise_cons.2 ⟨fun y hy=>by have:=d1 y hy;rw [h] at this;exact this,d2⟩
    · rw [if_neg h]
      refine List.pairwise_cons.2 ⟨fun y hy=>?_,noDup_put d2⟩
      intro e
      have hd:aGet (aPut l k x) y.1=some y.2:=aGet_of (noDup_put d2) (show (y.1,y.2)∈aPut l k x from hy)
      rw [aGet_put] at hd
      by_cases h2:y.1=k
      · exact h (e.trans h2)
      · rw [if_neg h2] at hd
        exact d1 _ (aGet_mem hd) e
theorem NoDup.put {k:κ} {x:β} {l:List (κ×β)} (d:NoDup l):NoDup (aPut l k x):=noDup_put d
end
end Go.Proofs.D.S
/- How a heap tells its blocks. -/
set_option linter.unusedVariables false
set_option linter.unusedSimpArgs false
namespace Go.Proofs.D.S
open Go Go.RowKit
def clsOf (e:Nat) (ch:Int):Int:=((Nat.log2 ch.toNat-e:Nat):Int)
def mkB (e:Nat) (b:Blk):Int×Int:=(b.at_,clsOf e b.ch)
theorem clsOf_pow {e k:Nat}:clsOf e ((2 ^ (e+k):Nat):Int)=(k:Int):=by
  unfold clsOf
  rw [Int.toNat_natCast,Nat.log2_two_pow,Nat.add_sub_cancel_left]
def covB (e q:Nat) (b:Blk):Bool:=decide (b.at_≤((q*2 ^ e:Nat):Int))&&decide (((q*2 ^ e:Nat):Int)<b.at_+b.ch)
def vB (b:Blk):V1:=bv b.at_ b.ch b.asked
def alB (bl:List Blk):List (Int×Blk):=bl.map fun b=>(b.at_,b)
def cntM (pg:Int) (bl:List Blk) (i:Nat):Int:=((bl.countP fun b=>over ((i:Int)*pg) pg b.at_ b.ch:Nat):Int)
structure HBl (s:HS) (e l u:Nat) (bl:List Blk):Prop where
  ms:s.ms=bl.map (mkB e)
  es:∃ al,s.es=encM kv vB al∧al.Perm (alB bl)
  met:s.met=tab s.met.length (cntM s.c.Pg bl)
  g:∀ q,s.g q=(decide (s.sz 0≤q)||bl.any (covB e q))
  srt:Srt bl
  bin:∀ b∈bl,Bin e l u b
structure HCf (s:HS) (e l u:Nat):Prop where
  tp:s.c.Tp e l u
  C:s.C=l+1
  so:SzOk s.C s.sz
  sz:2 ^ e*s.sz 0=s.mem.length
  mem:(s.mem.length:Int)=s.c.H
  on:(s.on.length:Int)*s.c.Pg=s.c.H
  met:s.met.length=s.on.length
  mm:s.mmi≠0
theorem kv_inj:∀ a b:Int,kv a=kv b→a=b:=fun a b h=>by cases h;rfl
section
variable {s:HS} {e l u:Nat} {bl:List Blk}
theorem Bin.form {b:Blk} (h:Bin e l u b):∃ k q:Nat,k≤l∧b.ch=((2 ^ (e+k):Nat):Int)∧b.at_=((q*2 ^ k*2 ^ e:Nat):Int):=by
  obtain ⟨k,a,h1,h2,h3,_⟩:=h
  exact ⟨k,a,h1,h2,by rw [h3,Nat.mul_assoc,← Nat.pow_add,Nat.add_comm k e]⟩
theorem HBl.ch1 (h:HBl s e l u bl):∀ b∈bl,1≤b.ch:=fun b hb=>by
  obtain ⟨k,q,_,e1,_⟩:=(h.bin b hb).form
  have:=Nat.two_pow_pos (e+k)
  rw [e1];omega
theorem alB_nodup (srt:Srt bl) (h1:∀ b∈bl,1≤b.ch):NoDup (alB bl):=by
  unfold NoDup alB
  rw [List.pairwise_map]
  refine List.Pairwise.imp_of_mem ?_ srt
  intro a b ha hb h
  have:=h1 a ha
  dsimp only;omega
theorem alB_get (srt:Srt bl) (h1:∀ b∈bl,1≤b.ch) {al:List (Int×Blk)} (p:al.Perm (alB bl)) (a:Int):aGet al a=(findB bl a).bind fun i=>bl[i]?:=by
  have nd:NoDup al:=(alB_nodup srt h1).perm p.symm
  cases hf:findB bl a with
  | none =>
    refine aGet_none.2 fun x hx hxa=>?_
    obtain ⟨b,hb,rfl⟩:=List.mem_map.1 (p.mem_iff.1 hx)
    obtain ⟨A,hA,e1,_⟩:=findB_mem srt h1 hb
    dsimp only at hxa
    rw [hxa,hf] at e1;cases e1
  | some i =>
    obtain ⟨hi,ha⟩:=findB_lt hf
    rw [Option.bind_some,List.getElem?_eq_getElem hi]
    exact aGet_of nd (p.mem_iff.2 (List.mem_map.2 ⟨bl[i],List.getElem_mem hi,by rw [ha]⟩))
theorem HBl.get (h:HBl s e l u bl) (a:Int):mapGet s.es (kv a)=((findB bl a).bind fun i=>bl[i]?).map vB:=by
  obtain ⟨al,e1,p⟩:=h.es
  rw [e1,mapGet_enc kv_inj,alB_get h.srt h.ch1 p]
theorem HBl.pages (h:HBl s e l u bl):(s.met.map fun n=>decide (n>0))=metP s.c.Pg s.met.length bl:=by
  rw [h.met]
  unfold metP
  apply List.ext_getElem
  · simp
  · intro i a b
    rw [List.getElem_map,tab_get,tab_get]
    unfold cntM
    rw [Bool.eq_iff_iff,decide_eq_true_eq,List.any_eq_true]
    have:=List.countP_pos_iff (p:=fun b=>over ((i:Int)*s.c.Pg) s.c.Pg b.at_ b.ch) (l:=bl)
    rw [show (((bl.countP fun b=>over ((i:Int)*s.c.Pg) s.c.Pg b.at_ b.ch:Nat):Int)>0)↔0<bl.countP fun b=>over ((i:Int)*s.c.Pg) s.c.Pg b.at_ b.ch by omega,this]
theorem pages_over {pg a n:Int} (hpg:1≤pg) (hn:1≤n) (i:Nat):((pagesP pg a n).1≤(i:Int)∧(i:Int)<(pagesP pg a n).2)↔over ((i:Int)*pg) pg a n=true:=by
  unfold pagesP over
  rw [if_neg (by omega)]
  simp only [Bool.and_eq_true,decide_eq_true_eq]
  have h1:a / pg≤(i:Int)↔a<((i:Int)+1)*pg:=by
    rw [← Int.lt_add_one_iff,Int.ediv_lt_iff_lt_mul (by omega)]
  have h2:(i:Int)≤(a+n-1) / pg↔(i:Int)*pg≤a+n-1:=Int.le_ediv_iff_mul_le (by omega)
  rw [Int.add_mul,Int.one_mul] at h1
  omega
theorem cnt_put (pg:Int) (i:Nat) (b:Blk) (bl:List Blk):cntM pg (b::bl) i=cntM pg bl i+if over ((i:Int)*pg) pg b.at_ b.ch=true then 1 else 0:=by
  unfold cntM
  rw [List.countP_cons]
  split <;> simp
theorem cnt_perm {pg:Int} {i:Nat} {a b:List Blk} (p:a.Perm b):cntM pg a i=cntM pg b i:=by
  unfold cntM;rw [p.countP_eq]
theorem met_add {pg:Int} (hpg:1≤pg) {b:Blk} (hb:1≤b.ch) {bl bl':List Blk} (p:bl'.Perm (b::bl)) (n:Nat):metQ (tab n (cntM pg bl)) (pagesP pg b.at_ b.ch).1 (pagesP pg b.at_ b.ch).2 1=tab n (cntM pg bl'):=by
  unfold metQ
  rw [tab_len]
  refine tab_congr fun i hi=>?_
  rw [tab_getD _ hi,cnt_perm p,cnt_put]
  congr 1
  by_cases h:over ((i:Int)*pg) pg b.at_ b.ch=true
  · rw [if_pos h,if_pos ((pages_over hpg hb i).2 h)]
  · rw [if_neg h,if_neg fun x=>h ((pages_over hpg hb i).1 x)]
theorem met_sub {pg:Int} (hpg:1≤pg) {b:Blk} (hb:1≤b.ch) {bl bl':List Blk} (p:bl.Perm (b::bl')) (n:Nat):metQ (tab n (cntM pg bl)) (pagesP pg b.at_ b.ch).1 (pagesP pg b.at_ b.ch).2 (-1)=tab n (cntM pg bl'):=by
  unfold metQ
  rw [tab_len]
  refine tab_congr fun i hi=>?_
  rw [tab_getD _ hi,cnt_perm p,cnt_put]
  by_cases h:over ((i:Int)*pg) pg b.at_ b.ch=true
  · rw [if_pos h,if_pos ((pages_over hpg hb i).2 h)];omega
  · rw [if_neg h,if_neg fun x=>h ((pages_over hpg hb i).1 x)];omega
theorem cov_iff {k q0 q:Nat} {b:Blk} (ha:b.at_=((q0*2 ^ e:Nat):Int)) (hc:b.ch=((2 ^ (e+k):Nat):Int)):covB e q b=true↔q0≤q∧q≤q0+2 ^ k-1:=by
  have z:=Nat.two_pow_pos e
  have zk:=Nat.two_pow_pos k
  unfold covB
  rw [Bool.and_eq_true,decide_eq_true_eq,decide_eq_true_eq,ha,hc,Nat.pow_add,Nat.mul_comm (2 ^ e) (2 ^ k)]
  have h1:q0*2 ^ e≤q*2 ^ e↔q0≤q:=Nat.mul_le_mul_right_iff z
  have h2:q*2 ^ e<(q0+2 ^ k)*2 ^ e↔q<q0+2 ^ k:=Nat.mul_lt_mul_right z
  rw [Nat.add_mul] at h2
  omega
theorem HBl.free (h:HBl s e l u bl) (c:HCf s e l u) {k p:Nat} (hk:k≤l):occ s.g k p=false↔(p<s.sz k∧freeB bl ((p:Int)*((2 ^ (e+k):Nat):Int)) ((2 ^ (e+k):Nat):Int)=true):=by
  have z:=Nat.two_pow_pos e
  have zk:=Nat.two_pow_pos k
  have hpw:=c.so.pw k (by rw [c.C];omega)
  have ep:(p:Int)*((2 ^ (e+k):Nat):Int)=((p*2 ^ k*2 ^ e:Nat):Int):=by rw [← Int.natCast_mul,Nat.pow_add,Nat.mul_comm (2 ^ e),Nat.mul_assoc]
  rw [occ_false,ep]
  constructor
  · intro f
    constructor
    · have h1:=f (p*2 ^ k+2 ^ k-1) (by omega) (by omega)
      rw [h.g,Bool.or_eq_false_iff] at h1
      have h2:=of_decide_eq_false h1.1
      rw [← hpw] at h2
      have h3:p*2 ^ k<s.sz k*2 ^ k:=by omega
      exact Nat.lt_of_mul_lt_mul_right h3
    · refine List.all_eq_true.2 fun b hb=>?_
      obtain ⟨kb,a,hkb,hch,hat⟩:=(h.bin b hb).form
      have zb:=Nat.two_pow_pos kb
      cases ho:over ((p*2 ^ k*2 ^ e:Nat):Int) ((2 ^ (e+k):Nat):Int) b.at_ b.ch with
      | false=>rfl
      | true =>
        exfalso
        unfold over at ho
        rw [Bool.and_eq_true,decide_eq_true_eq,decide_eq_true_eq,hch,hat,Nat.pow_add,Nat.pow_add,Nat.mul_comm (2 ^ e),Nat.mul_comm (2 ^ e)] at ho
        obtain ⟨o1,o2⟩:=ho
        rw [← Int.natCast_add,Int.ofNat_lt,← Nat.add_mul] at o1 o2
        have o3:=Nat.lt_of_mul_lt_mul_right o1
        have o4:=Nat.lt_of_mul_lt_mul_right o2
        have key:∀ q,p*2 ^ k≤q→q<p*2 ^ k+2 ^ k→a*2 ^ kb≤q→q<a*2 ^ kb+2 ^ kb→False:=fun q q1 q2 q3 q4=>by
          have h1:=f q q1 q2
          rw [h.g,Bool.or_eq_false_iff] at h1
          have h2:=List.any_eq_false.1 h1.2 b hb
          exact h2 ((cov_iff hat hch).2 ⟨q3,by omega⟩)
        by_cases hle:p*2 ^ k≤a*2 ^ kb
        · exact key (a*2 ^ kb) hle o4 (Nat.le_refl _) (by omega)
        · exact key (p*2 ^ k) (Nat.le_refl _) (by omega) (by omega) o3
  · rintro ⟨hp,hf⟩ q q1 q2
    rw [h.g,Bool.or_eq_false_iff]
    have h1:(p+1)*2 ^ k≤s.sz k*2 ^ k:=Nat.mul_le_mul_right _ hp
    rw [hpw,Nat.add_mul,Nat.one_mul] at h1
    refine ⟨decide_eq_false (by omega),List.any_eq_false.2 fun b hb hc=>?_⟩
    obtain ⟨kb,a,hkb,hch,hat⟩:=(h.bin b hb).form
    have zb:=Nat.two_pow_pos kb
    obtain ⟨c1,c2⟩:=(cov_iff hat hch).1 hc
    have hx:=List.all_eq_true.1 hf b hb
    simp only [Bool.not_eq_true'] at hx
    have ho:over ((p*2 ^ k*2 ^ e:Nat):Int) ((2 ^ (e+k):Nat):Int) b.at_ b.ch=true:=by
      unfold over
      rw [Bool.and_eq_true,decide_eq_true_eq,decide_eq_true_eq,hch,hat,Nat.pow_add,Nat.pow_add,Nat.mul_comm (2 ^ e),Nat.mul_comm (2 ^ e)]
      rw [← Int.natCast_add,← Int.natCast_add,Int.ofNat_lt,Int.ofNat_lt,← Nat.add_mul,← Nat.add_mul]
      exact ⟨Nat.mul_lt_mul_of_pos_right (by omega) z,Nat.mul_lt_mul_of_pos_right (by omega) z⟩
    rw [ho] at hx;cases hx
theorem ins_map {i:Nat} {b:Blk} (hi:i≤bl.length) (h1:∀ (p:Nat) (h:p<(bl.map (mkB e)).length),p<i→(bl.map (mkB e))[p].1<b.at_) (h2:∀ (p:Nat) (h:p<(bl.map (mkB e)).length),i≤p→b.at_<(bl.map (mkB e))[p].1) :
    insM (bl.map (mkB e)) i (mkB e b)=(putB bl b).map (mkB e):=by
  have e1:putB bl b=bl.take i++b::bl.drop i:=by
    rw [putB_take bl b i (fun j hj x hx=>?_) hi]
    · congr 1
      by_cases hl:i<bl.length
      · rw [List.drop_eq_getElem_cons hl]
        have:=h2 i (by simpa using hl) (Nat.le_refl _)
        simp only [List.getElem_map,mkB] at this
        simp only [putB]
        rw [if_pos this]
      · rw [List.drop_eq_nil_of_le (by omega)];rfl
    · obtain ⟨hj2,rfl⟩:=List.getElem?_eq_some_iff.1 hx
      have:=h1 j (by simpa using hj2) hj
      simp only [List.getElem_map,mkB] at this
      omega
  rw [e1]
  unfold insM
  rw [List.map_append,List.map_cons,List.map_take,List.map_drop]
theorem HBl.put (h:HBl s e l u bl) (c:HCf s e l u) {k p:Nat} (hk:k≤l) {b:Blk} (hat:b.at_=((p*2 ^ k*2 ^ e:Nat):Int)) (hch:b.ch=((2 ^ (e+k):Nat):Int)) (hb:Bin e l u b) (hfr:freeB bl b.at_ b.ch=true) {i:Nat} (hi:i≤s.ms.length)
    (h1:∀ (p:Nat) (h:p<s.ms.length),p<i→s.ms[p].1<b.at_) (h2:∀ (p:Nat) (h:p<s.ms.length),i≤p→b.at_<s.ms[p].1) {s':HS} (ec:s'.c=s.c) (ez:s'.sz=s.sz)
    (ems:s'.ms=insM s.ms i (b.at_,(k:Int))) (ees:s'.es=mapPut s.es (kv b.at_) (vB b)) (emet:s'.met=metQ s.met (pagesP s.c.Pg b.at_ b.ch).1 (pagesP s.c.Pg b.at_ b.ch).2 1) (eg:s'.g=useG true (p*2 ^ k) (p*2 ^ k+2 ^ k-1) s.g) :
    HBl s' e l u (putB bl b):=by
  have z:=Nat.two_pow_pos (e+k)
  have hch1:1≤b.ch:=by omega
  have perm:=putB_perm b bl
  have f:=c.tp.ok.facts
  obtain ⟨al,e1,pa⟩:=h.es
  have em:(b.at_,(k:Int))=mkB e b:=by unfold mkB;rw [hch,clsOf_pow]
  refine ⟨?_,⟨aPut al b.at_ b,?_,?_⟩,?_,fun q=>?_,?_,?_⟩
  · rw [ems,em]
    have hm:=h.ms
    rw [hm,List.length_map] at hi
    have key:∀ ms:List (Int×Int),ms=bl.map (mkB e)→(∀ (p:Nat) (h:p<ms.length),p<i→ms[p].1<b.at_)→(∀ (p:Nat) (h:p<ms.length),i≤p→b.at_<ms[p].1)→insM ms i (mkB e b)=(putB bl b).map (mkB e):=by
      rintro ms rfl k1 k2
      exact ins_map hi k1 k2
    exact key _ hm h1 h2
  · rw [ees,e1,mapPut_enc kv_inj]
  · have hn:aGet al b.at_=none:=by
      refine aGet_none.2 fun x hx hxa=>?_
      obtain ⟨y,hy,rfl⟩:=List.mem_map.1 (pa.mem_iff.1 hx)
      have c1:=h.ch1 y hy
      rcases freeB_apart hfr y hy with h3 | h3 <;> (dsimp only at hxa;omega)
    rw [aPut_new hn]
    refine (List.perm_append_comm).trans ?_
    unfold alB
    exact (pa.cons (b.at_,b)).trans ((perm.map fun b:Blk=>(b.at_,b)).symm)
  · rw [emet,ec,metQ_len]
    have hm:=h.met
    generalize s.met.length=n at hm ⊢
    rw [hm]
    exact met_add (by omega) hch1 perm n
  · rw [eg,ez]
    unfold useG
    have e2:(putB bl b).any (covB e q)=(covB e q b||bl.any (covB e q)):=by
      rw [perm.any_eq];rfl
    rw [e2]
    by_cases hc:covB e q b=true
    · rw [if_pos ((cov_iff hat hch).1 hc),hc];simp
    · rw [if_neg fun x=>hc ((cov_iff hat hch).2 x),h.g q]
      rw [Bool.not_eq_true] at hc
      rw [hc,Bool.false_or]
  · have:=h.srt.put (asked:=b.asked) hch1 h.ch1 hfr
    exact this
  · intro x hx
    rcases (putB_mem _ _ _).1 hx with rfl | hx
    · exact hb
    · exact h.bin x hx
theorem HBl.del (h:HBl s e l u bl) (c:HCf s e l u) {A:Nat} (hA:A<bl.length) {k p:Nat} (hat:bl[A].at_=((p*2 ^ k*2 ^ e:Nat):Int)) (hch:bl[A].ch=((2 ^ (e+k):Nat):Int)) (hk:k≤l) {s':HS} (ec:s'.c=s.c) (ez:s'.sz=s.sz)
    (ems:s'.ms=s.ms.take A++s.ms.drop (A+1)) (ees:s'.es=mapDel s.es (kv bl[A].at_)) (emet:s'.met=metQ s.met (pagesP s.c.Pg bl[A].at_ bl[A].ch).1 (pagesP s.c.Pg bl[A].at_ bl[A].ch).2 (-1)) (eg:s'.g=useG false (p*2 ^ k) (p*2 ^ k+2 ^ k-1) s.g) :
    HBl s' e l u (bl.take A++bl.drop (A+1)):=by
  have hc1:=h.ch1 _ (List.getElem_mem hA)
  have perm:=rest_perm hA
  have f:=c.tp.ok.facts
  obtain ⟨al,e1,pa⟩:=h.es
  have nd:NoDup al:=(alB_nodup h.srt h.ch1).perm pa.symm
  have hg:aGet al bl[A].at_=some bl[A]:=aGet_of nd (pa.mem_iff.2 (List.mem_map.2 ⟨bl[A],List.getElem_mem hA,rfl⟩))
  have hap:∀ x∈bl.take A++bl.drop (A+1),x.at_+x.ch≤bl[A].at_∨bl[A].at_+bl[A].ch≤x.at_:=by
    intro x hx
    have sr:=h.srt
    unfold Srt at sr
    rcases List.mem_append.1 hx with hx | hx
    · obtain ⟨i,hi,rfl⟩:=List.getElem_of_mem hx
      rw [List.length_take] at hi
      rw [List.getElem_take]
      exact .inl (List.pairwise_iff_getElem.1 sr i A (by omega) hA (by omega))
    · obtain ⟨i,hi,rfl⟩:=List.getElem_of_mem hx
      rw [List.length_drop] at hi
      rw [List.getElem_drop]
      exact .inr (List.pairwise_iff_getElem.1 sr A (A+1+i) hA (by omega) (by omega))
  refine ⟨?_,⟨aDel al bl[A].at_,?_,?_⟩,?_,fun q=>?_,h.srt.rest A,?_⟩
  · rw [ems,h.ms,List.map_append,List.map_take,List.map_drop]
  · rw [ees,e1,mapDel_enc kv_inj]
  · have p1:=aDel_perm hg
    have p2:=(perm.map fun b:Blk=>(b.at_,b))
    rw [List.map_cons] at p2
    exact ((p1.symm.trans pa).trans p2).cons_inv
  · rw [emet,ec,metQ_len]
    have hm:=h.met
    generalize s.met.length=n at hm ⊢
    rw [hm]
    exact met_sub (by omega) hc1 perm n
  · rw [eg,ez]
    unfold useG
    have e2:bl.any (covB e q)=(covB e q bl[A]||(bl.take A++bl.drop (A+1)).any (covB e q)):=by
      rw [perm.any_eq];rfl
    by_cases hc:covB e q bl[A]=true
    · have hr:=(cov_iff hat hch).1 hc
      rw [if_pos hr]
      symm
      rw [Bool.or_eq_false_iff]
      have zk:=Nat.two_pow_pos k
      constructor
      · refine decide_eq_false ?_
        have b1:=(h.bin _ (List.getElem_mem hA)).ok c.tp
        have hin:p*2 ^ k+2 ^ k≤s.sz 0:=by
          obtain ⟨kk,a,hkk,hcc,haa,ha⟩:=h.bin _ (List.getElem_mem hA)
          have hH:=(c.tp.ok.ceil (k:=(kk:Int)) (by omega) (by rw [c.tp.ex.hL];omega)).2.1
          rw [c.tp.ceil hkk,← c.mem,← c.sz] at hH
          have t1:(a+1)*2 ^ (e+kk)≤tP l u kk*(2+kk)*2 ^ (e+kk):=Nat.mul_le_mul_right _ ha
          rw [Nat.add_mul,Nat.one_mul] at t1
          have t2:p*2 ^ k*2 ^ e+2 ^ (e+k)≤2 ^ e*s.sz 0:=by
            have t3:=hat.symm.trans haa
            have t4:=hch.symm.trans hcc
            generalize tP l u kk*(2+kk)*2 ^ (e+kk)=T at *
            omega
          rw [Nat.pow_add,Nat.mul_comm (2 ^ e) (2 ^ k),← Nat.add_mul,Nat.mul_comm (2 ^ e)] at t2
          exact Nat.le_of_mul_le_mul_right t2 (Nat.two_pow_pos e)
        omega
      · refine List.any_eq_false.2 fun x hx hcx=>?_
        have a1:=hap x hx
        have c1:=h.ch1 x (perm.mem_iff.2 (List.mem_cons_of_mem _ hx))
        unfold covB at hc hcx
        rw [Bool.and_eq_true,decide_eq_true_eq,decide_eq_true_eq] at hc hcx
        omega
    · rw [if_neg fun x=>hc ((cov_iff hat hch).2 x),h.g q,e2]
      rw [Bool.not_eq_true] at hc
      rw [hc,Bool.false_or]
  · intro x hx
    exact h.bin x (perm.mem_iff.2 (List.mem_cons_of_mem _ hx))
theorem HBl.again (h:HBl s e l u bl) (c:HCf s e l u) {A:Nat} (hA:A<bl.length) {s':HS} (ec:s'.c=s.c) (ez:s'.sz=s.sz) (ems:s'.ms=s.ms) (eg:s'.g=s.g)
    (ees:s'.es=mapPut (mapDel s.es (kv bl[A].at_)) (kv bl[A].at_) (vB bl[A])) (emet:s'.met=metQ (metQ s.met (pagesP s.c.Pg bl[A].at_ bl[A].ch).1 (pagesP s.c.Pg bl[A].at_ bl[A].ch).2 (-1)) (pagesP s.c.Pg bl[A].at_ bl[A].ch).1 (pagesP s.c.Pg bl[A].at_ bl[A].ch).2 1):HBl s' e l u bl:=by
  have hc1:=h.ch1 _ (List.getElem_mem hA)
  have perm:=rest_perm hA
  have f:=c.tp.ok.facts
  obtain ⟨al,e1,pa⟩:=h.es
  have nd:NoDup al:=(alB_nodup h.srt h.ch1).perm pa.symm
  have hg:aGet al bl[A].at_=some bl[A]:=aGet_of nd (pa.mem_iff.2 (List.mem_map.2 ⟨bl[A],List.getElem_mem hA,rfl⟩))
  refine ⟨ems.trans h.ms,⟨aPut (aDel al bl[A].at_) bl[A].at_ bl[A],?_,?_⟩,?_,fun q=>by rw [eg,ez];exact h.g q,h.srt,h.bin⟩
  · rw [ees,e1,mapDel_enc kv_inj,mapPut_enc kv_inj]
  · rw [aPut_new (by rw [aGet_del nd,if_pos rfl])]
    exact (List.perm_append_comm).trans ((aDel_perm hg).symm.trans pa)
  · rw [emet,ec,metQ_len,metQ_len]
    have hm:=h.met
    generalize s.met.length=n at hm ⊢
    rw [hm,met_sub (by omega) hc1 perm n]
    exact met_add (by omega) hc1 perm n
end
end Go.Proofs.D.S
/- A block is placed in a heap,as the model places it. -/
set_option linter.unusedVariables false
set_option linter.unusedSimpArgs false
namespace Go.Proofs.D.S
open Go Go.RowKit
variable {G G' G0 G1:GH} {hid:Nat} {s:HS} {e l u:Nat} {bl:List Blk} {m:Mod}
structure HEq (s:HS) (m:Mod):Prop where
  c:m.c=s.c
  peak:m.peak=s.peak
  mark:m.mark=s.mark
  on:m.on=s.on
  mem:m.mem=s.mem
theorem HCf.pgs (c:HCf s e l u):∃ pg:Nat,s.c.Pg=(pg:Int)∧1≤pg∧s.on.length*pg=s.mem.length:=by
  have f:=c.tp.ok.facts
  refine ⟨s.c.Pg.toNat,by omega,by omega,?_⟩
  have h1:=c.on
  have h2:=c.mem
  have e1:s.c.Pg=((s.c.Pg.toNat:Nat):Int):=by omega
  rw [e1,← h2,← Int.natCast_mul] at h1
  exact_mod_cast h1
theorem HCf.onl (c:HCf s e l u):s.on.length≤65536:=by
  obtain ⟨pg,e1,h1,h2⟩:=c.pgs
  have f:=c.tp.ok.facts
  have hm:=c.mem
  have:=Nat.le_mul_of_pos_right s.on.length h1
  omega
theorem HBl.len (h:HBl s e l u bl):(bl.length:Int)≤chSum bl:=by
  have:∀ {bl:List Blk},(∀ b∈bl,1≤b.ch)→(bl.length:Int)≤chSum bl:=by
    intro bl
    induction bl with
    | nil=>intro _;decide
    | cons b bl ih =>
      intro h
      have h1:=ih fun x hx=>h x (by simp [hx])
      have h2:=h b (by simp)
      rw [chSum_cons,List.length_cons];omega
  exact this h.ch1
theorem HBl.sm (h:HBl s e l u bl) (c:HCf s e l u) (hl:s.live=chSum bl) (hM:chSum bl≤s.c.M):HSm s:=by
  have f:=c.tp.ok.facts
  have hlen:=h.len
  have ho:=c.onl
  refine ⟨by rw [c.met];omega,fun x hx=>?_,by omega,by omega⟩
  rw [h.met] at hx
  unfold tab at hx
  obtain ⟨i,_,rfl⟩:=List.mem_map.1 hx
  have:=List.countP_le_length (p:=fun b=>over ((i:Int)*s.c.Pg) s.c.Pg b.at_ b.ch) (l:=bl)
  unfold cntM
  omega
theorem puts_M (raw:HRaw G hid s) (c:HCf s e l u) (hb:HBl s e l u bl) (eq:HEq s m) (hl:s.live=chSum bl) {k:Nat} (hk:k≤l) (hM:chSum bl+((2 ^ (e+k):Nat):Int)≤s.c.M) (asked:Int) :
    (placeM m bl ((2 ^ (e+k):Nat):Int) asked).2.2≠7∧∃ (G':GH) (s':HS),CW F25.id [.c (.ptr hid 0),.c (.int .i64 ((2 ^ (e+k):Nat):Int)),.c (.int .i64 asked)] G=some ([.c (.int .i64 (placeM m bl ((2 ^ (e+k):Nat):Int) asked).2.1),.c (.int .i64 (placeM m bl ((2 ^ (e+k):Nat):Int) asked).2.2)],G') ∧
      HRaw G' hid s'∧FrX (s.X hid) G G'∧s'.X hid=s.X hid∧((placeM m bl ((2 ^ (e+k):Nat):Int) asked).2.2≠0→s' = s) ∧
      ((placeM m bl ((2 ^ (e+k):Nat):Int) asked).2.2=0→HCf s' e l u∧HBl s' e l u (placeM m bl ((2 ^ (e+k):Nat):Int) asked).1.bl∧HEq s' (placeM m bl ((2 ^ (e+k):Nat):Int) asked).1∧s'.live=(placeM m bl ((2 ^ (e+k):Nat):Int) asked).1.live∧s'.live=chSum (placeM m bl ((2 ^ (e+k):Nat):Int) asked).1.bl ∧
        0≤(placeM m bl ((2 ^ (e+k):Nat):Int) asked).2.1∧(placeM m bl ((2 ^ (e+k):Nat):Int) asked).2.1+((2 ^ (e+k):Nat):Int)≤s.mem.length∧s'.mem.length=s.mem.length):=by
  have f:=c.tp.ok.facts
  have z:=Nat.two_pow_pos (e+k)
  have ze:=Nat.two_pow_pos e
  have hmem:=c.mem
  have ho:=c.onl
  have sm:=hb.sm c hl (by omega)
  obtain ⟨pg,ePg,hpg,hon⟩:=c.pgs
  have hpw:=c.so.pw k (by rw [c.C];omega)
  obtain ⟨j,hj1,hj2,_⟩:=room c.tp hk hb.bin hM
  have fit:∀ p:Nat,p<s.sz k↔(p:Int)*((2 ^ (e+k):Nat):Int)+((2 ^ (e+k):Nat):Int)≤s.c.H:=by
    intro p
    rw [← Int.natCast_mul,← Int.natCast_add,← hmem,← c.sz,← hpw,Int.ofNat_le]
    have e1:p*2 ^ (e+k)+2 ^ (e+k)=(p+1)*(2 ^ k*2 ^ e):=by rw [Nat.add_mul,Nat.one_mul,Nat.pow_add,Nat.mul_comm (2 ^ e)]
    have e2:2 ^ e*(s.sz k*2 ^ k)=s.sz k*(2 ^ k*2 ^ e):=by rw [Nat.mul_comm,Nat.mul_assoc]
    rw [e1,e2]
    have z2:0<2 ^ k*2 ^ e:=Nat.mul_pos (Nat.two_pow_pos k) ze
    rw [Nat.mul_le_mul_right_iff z2]
    omega
  obtain ⟨hjH,hjf,_⟩:=(lowJ_some (by omega) (by omega)).1 hj1
  have hl2:=hb.len
  have hml:s.ms.length=bl.length:=by rw [hb.ms,List.length_map]
  have at_eq:∀ q:Nat,((q*2 ^ k*2 ^ e:Nat):Int)=(q:Int)*((2 ^ (e+k):Nat):Int):=fun q=>by rw [← Int.natCast_mul,Nat.pow_add,Nat.mul_comm (2 ^ e),Nat.mul_assoc]
  obtain ⟨q,i,at_,ea,q1,q2,q3,i1,i2,i3,body⟩:=F25.sp (asked:=asked) raw sm c.so c.tp.ok (e:=e) (l:=l) (k:=k) (pg:=pg) (Gg:=2 ^ e) c.tp.ex c.C hk (ch:=((2 ^ (e+k):Nat):Int)) rfl rfl c.sz (by omega) ePg hpg hon c.met
    ⟨j,(hb.free c hk).2 ⟨(fit j).2 hjH,hjf⟩⟩ (fun z hz m hm hx=>by
      obtain ⟨_,fr⟩:=(hb.free c hk).1 hz
      rw [hb.ms] at hm
      obtain ⟨b,hbm,rfl⟩:=List.mem_map.1 hm
      have c1:=hb.ch1 b hbm
      rw [at_eq] at hx
      rcases freeB_apart fr b hbm with h3 | h3 <;> (simp only [mkB] at hx;omega)) (by omega)
  rw [at_eq] at ea
  obtain ⟨q4,q5⟩:=(hb.free c hk).1 q2
  have hlow:lowJ s.c.H bl ((2 ^ (e+k):Nat):Int)=some q:=(lowJ_some (by omega) (by omega)).2 ⟨(fit q).1 q1,q5,fun p hp=>by
    have h1:=q3 p hp
    cases h2:freeB bl ((p:Int)*((2 ^ (e+k):Nat):Int)) ((2 ^ (e+k):Nat):Int) with
    | false=>rfl
    | true=>rw [(hb.free c hk).2 ⟨by omega,h2⟩] at h1;cases h1⟩
  have hqj:q=j:=by rw [hlow] at hj1;cases hj1;rfl
  have hR:lowR m.c.H bl ((2 ^ (e+k):Nat):Int)=(at_,true):=by unfold lowR;rw [eq.c,hlow,ea]
  have hpgs:=hb.pages
  have hmet:=c.met
  rw [hpgs,hmet] at body
  have hq0:0≤at_:=by rw [ea];exact Int.mul_nonneg (by omega) (by omega)
  have hqH:=(fit q).1 q1
  rw [← ea] at hqH q5
  have perm:=putB_perm ⟨at_,((2 ^ (e+k):Nat):Int),asked⟩ bl
  rcases body with ⟨h1,G',h2,h3,h4⟩ | ⟨on',fr,h1,tid,sid,oni,G',h2,h3,h4⟩
  · have ep:placeM m bl ((2 ^ (e+k):Nat):Int) asked=(m,0,6):=by
      unfold placeM
      rw [hR,if_pos rfl,eq.c,eq.on,h1]
    rw [ep]
    exact ⟨(show (6:Int)≠7 by decide),G',s,h2,h3,h4,rfl,fun _=>rfl,fun h=>absurd h (show ¬ (6:Int)=0 by decide)⟩
  · have ep:placeM m bl ((2 ^ (e+k):Nat):Int) asked=(⟨m.c,putB bl ⟨at_,((2 ^ (e+k):Nat):Int),asked⟩,chSum (putB bl ⟨at_,((2 ^ (e+k):Nat):Int),asked⟩),max m.peak (chSum (putB bl ⟨at_,((2 ^ (e+k):Nat):Int),asked⟩)),max m.mark (at_+((2 ^ (e+k):Nat):Int)),on',fr.foldl (fun mem p=>fillP mem m.c.Sd p m.c.Pg) m.mem⟩,at_,0):=by
      unfold placeM
      rw [hR,if_pos rfl,eq.c,eq.on,h1]
    have hcs:chSum (putB bl ⟨at_,((2 ^ (e+k):Nat):Int),asked⟩)=s.live+((2 ^ (e+k):Nat):Int):=by
      rw [chSum_perm perm,chSum_cons,hl];exact Int.add_comm _ _
    have onl:on'.length=s.on.length:=(commitP_some h1).1
    have fl:(fillsP s.c fr s.mem).length=s.mem.length:=fillsP_len fr s.mem
    rw [ep]
    refine ⟨(show (0:Int)≠7 by decide),G',_,h2,h3,h4,rfl,fun h=>absurd rfl h,fun _=>⟨⟨c.tp,c.C,c.so,?_,?_,?_,?_,c.mm⟩,?_,⟨eq.c,?_,?_,rfl,?_⟩,?_,?_,hq0,by rw [hmem];exact hqH,fl⟩⟩
    · show 2 ^ e*s.sz 0=(fillsP s.c fr s.mem).length
      rw [fl];exact c.sz
    · show ((fillsP s.c fr s.mem).length:Int)=s.c.H
      rw [fl];exact c.mem
    · show (on'.length:Int)*s.c.Pg=s.c.H
      rw [onl];exact c.on
    · show (metQ s.met _ _ 1).length=on'.length
      rw [metQ_len,onl];exact c.met
    · exact hb.put c (k:=k) (p:=q) hk (b:=⟨at_,((2 ^ (e+k):Nat):Int),asked⟩) (by show at_=_;rw [ea,at_eq]) rfl (by
        have:=Bin.new (g:=e) (u:=u) hk hj2 asked
        rw [← hqj,← ea] at this
        exact this) q5 i1 i2 i3 rfl rfl rfl rfl rfl rfl
    · show max m.peak (chSum _)=max s.peak (s.live+_)
      rw [eq.peak,hcs]
    · show max m.mark _=max s.mark _
      rw [eq.mark]
    · show fr.foldl (fun mem p=>fillP mem m.c.Sd p m.c.Pg) m.mem=fillsP s.c fr s.mem
      rw [eq.c,eq.mem];rfl
    · show s.live+_=chSum _
      rw [hcs]
    · show s.live+_=chSum _
      rw [hcs]
end Go.Proofs.D.S
/- A heap and its model: what asks,what goes. -/
set_option linter.unusedVariables false
set_option linter.unusedSimpArgs false
namespace Go.Proofs.D.S
open Go Go.RowKit
variable {G G' G0 G1:GH} {hid:Nat} {s:HS} {e l u:Nat} {bl:List Blk} {m:Mod}
structure HM (G:GH) (hid:Nat) (s:HS) (e l u:Nat) (m:Mod):Prop where
  raw:HRaw G hid s
  cf:HCf s e l u
  bl:HBl s e l u m.bl
  eq:HEq s m
  live:m.live=s.live
  ok:m.Ok
def HDo (G:GH) (hid:Nat) (s:HS) (e l u:Nat) (x:Option Res) (r:Mod×AnsV):Prop :=
  ∃ (G':GH) (s':HS),x=some ([.agg (eAns r.2)],G')∧HM G' hid s' e l u r.1∧FrX (s.X hid) G G'∧s'.X hid=s.X hid
theorem HM.tp (h:HM G hid s e l u m):m.c.Tp e l u:=by rw [h.eq.c];exact h.cf.tp
theorem HM.keep {R:List (Nat×Obj)} (h:HM G hid s e l u m) (k:Hp G G' R):HM G' hid s e l u m:=⟨h.raw.keep k,h.cf,h.bl,h.eq,h.live,h.ok⟩
theorem HM.setMem (h:HM G hid s e l u m) {mem':List Int} (hl:mem'.length=s.mem.length) (r:HRaw G' hid { s with mem:=mem' }):HM G' hid { s with mem:=mem' } e l u { m with mem:=mem' } :=
  ⟨r,⟨h.cf.tp,h.cf.C,h.cf.so,by show _=mem'.length;rw [hl];exact h.cf.sz,by show (mem'.length:Int)=_;rw [hl];exact h.cf.mem,h.cf.on,h.cf.met,h.cf.mm⟩,⟨h.bl.ms,h.bl.es,h.bl.met,h.bl.g,h.bl.srt,h.bl.bin⟩,⟨h.eq.c,h.eq.peak,h.eq.mark,h.eq.on,rfl⟩,h.live,
    ⟨h.ok.c,h.ok.bl,h.ok.live,h.ok.lim,h.ok.peak,h.ok.mark,h.ok.on,by show (mem'.length:Int)=m.c.H;rw [hl,h.eq.c];exact h.cf.mem⟩⟩
theorem HM.small (h:HM G hid s e l u m):-1000000000≤s.live∧s.live≤1000000000:=by
  have f:=h.cf.tp.ok.facts
  have l1:=h.live
  have l2:=h.ok.lim
  have l3:=h.ok.live
  have l4:=h.bl.len
  rw [h.eq.c] at l2
  omega
theorem placeM_at {m:Mod} {l:List Blk} {n asked:Int} (hn:1≤n) (hH:0≤m.c.H) (h:(placeM m l n asked).2.2≠0):(placeM m l n asked).2.1=0:=by
  rcases placeM_cases m l (asked:=asked) hn hH with ⟨_,e⟩ | e | ⟨j,on',fr,_,_,_,_,_,_,e⟩
  · rw [e]
  · rw [e]
  · rw [e] at h;exact absurd rfl h
def giveR (m:Mod) (r:Int×Int) (asked:Int):Mod×AnsV :=
  if r.2=0 then (if (placeM m m.bl r.1 asked).2.2=0 then ((placeM m m.bl r.1 asked).1,⟨0,(placeM m m.bl r.1 asked).2.1,0,0,0,0,0,0⟩) else (m,errA (placeM m m.bl r.1 asked).2.2)) else (m,errA r.2)
theorem asks_M (h:HM G hid s e l u m) {r:Int×Int} (hr:(r.2≠0∧r.1=0)∨(r.2=0∧m.live+r.1≤m.c.M∧∃ k:Nat,k≤l∧r.1=((2 ^ (e+k):Nat):Int))) (asked:Int) :
    HDo G hid s e l u (CW F26.id [.c (.ptr hid 0),.c (.int .i64 r.1),.c (.int .i64 asked),.c (.int .i64 r.2)] G) (giveR m r asked):=by
  unfold giveR
  rcases hr with ⟨h1,_⟩ | ⟨h1,hM,k,hk,he⟩
  · rw [if_neg h1]
    exact ⟨G,s,F26.bad h1,h,FrX.refl,rfl⟩
  · rw [if_pos h1,h1,he]
    have z:=Nat.two_pow_pos (e+k)
    have hl:=h.ok.live
    rw [he,h.ok.live,h.eq.c] at hM
    obtain ⟨n7,G',s',e1,r1,f1,x1,bad,good⟩:=puts_M h.raw h.cf h.bl h.eq (by rw [← h.live];exact hl) hk hM asked
    have hf:=h.ok.c.facts
    by_cases hq:(placeM m m.bl ((2 ^ (e+k):Nat):Int) asked).2.2=0
    · rw [if_pos hq]
      obtain ⟨c1,b1,q1,l1,l2,a1,a2,a3⟩:=good hq
      rw [hq] at e1
      obtain ⟨k1,k2,_,_⟩:=placeM_ok h.ok (asked:=asked) (show 1≤((2 ^ (e+k):Nat):Int) by omega) h.ok.bl (by rw [h.eq.c];exact hM) hq
      exact ⟨G',s',F26.good e1,⟨r1,c1,b1,q1,l1.symm,k1⟩,f1,x1⟩
    · rw [if_neg hq]
      have:=bad hq
      subst this
      have ha:=placeM_at (show 1≤((2 ^ (e+k):Nat):Int) by omega) (by omega) hq
      rw [ha] at e1
      exact ⟨G',s',F26.good e1,⟨r1,h.cf,h.bl,h.eq,h.live,h.ok⟩,f1,rfl⟩
theorem zeroP_eq {mem:List Int} {a n:Int} (h0:0≤a) (h1:0≤n) (h2:a+n≤mem.length):zeroP mem a n=mem.take a.toNat++List.replicate n.toNat 0++mem.drop (a.toNat+n.toNat):=by
  apply List.ext_getElem
  · rw [zeroP_len];simp only [List.length_append,List.length_take,List.length_replicate,List.length_drop];omega
  · intro i i1 i2
    rw [zeroP_len] at i1
    rw [show (zeroP mem a n)[i]=if a≤(i:Int)∧(i:Int)<a+n then 0 else mem.getD i 0 from tab_get (by rw [tab_len];exact i1)]
    by_cases hx:a≤(i:Int)∧(i:Int)<a+n
    · rw [if_pos hx,List.getElem_append_left (by simp only [List.length_append,List.length_take,List.length_replicate];omega),List.getElem_append_right (by simp only [List.length_take];omega),List.getElem_replicate]
    · rw [if_neg hx,getD_lt _ i1]
      by_cases hy:(i:Int)<a
      · rw [List.getElem_append_left (by simp only [List.length_append,List.length_take,List.length_replicate];omega),List.getElem_append_left (by simp only [List.length_take];omega),List.getElem_take]
      · rw [List.getElem_append_right (by simp only [List.length_append,List.length_take,List.length_replicate];omega),List.getElem_drop]
        congr 1
        simp only [List.length_append,List.length_take,List.length_replicate];omega
theorem aligned_M (h:HM G hid s e l u m) {o:OpV} {al:Int} (hk:o.k≠2) (hal:al=if o.k=3 then o.a else 1) (ha:R64 al) :
    HDo G hid s e l u (CW F12.id [.c (.ptr hid 0),.c (.int .i64 o.s),.c (.int .i64 al)] G) (giveM m o):=by
  have eg:giveM m o=giveR m (newS m.c.G m.c.N m.c.M m.live o.s al) o.s:=by
    unfold giveM giveR
    simp only [if_neg hk,← hal]
  rw [eg]
  obtain ⟨G',s',e1,x⟩:=asks_M h (charge_new h.tp.ex m.live o.s al) o.s
  refine ⟨G',s',?_,x⟩
  rw [h.eq.c,h.live] at e1 ⊢
  exact F12.sp h.raw h.cf.tp.ok h.small ha (by simp) rfl e1
theorem manyS_prod {G N M live n s:Int} (h:(manyS G N M live n s).2=0) (hN:N≤65536):(productS N n s).1=wrap64 (n*s):=by
  unfold manyS at h
  by_cases hp:(productS N n s).2=0
  · unfold productS at hp ⊢
    by_cases h1:n<0∨s<0
    · rw [if_pos h1] at hp;cases hp
    · rw [if_neg h1] at hp ⊢
      by_cases h2:n*s>N
      · rw [if_pos h2] at hp;cases hp
      · rw [if_neg h2]
        have:0≤n*s:=Int.mul_nonneg (by omega) (by omega)
        rw [wrap_id (by omega) (by omega)]
  · rw [if_neg hp] at h;exact absurd h hp
theorem calloc_M (h:HM G hid s e l u m) {o:OpV} (hk:o.k=2) (hn:R64 o.n) (hs:R64 o.s) :
    HDo G hid s e l u (CW F15.id [.c (.ptr hid 0),.c (.int .i64 o.n),.c (.int .i64 o.s)] G) (giveM m o):=by
  have fs:=h.cf.tp.ok.facts
  have cm:=charge_many h.tp.ex m.live o.n o.s
  obtain ⟨G',s',e1,h1,f1,x1⟩:=asks_M h cm (productS s.c.N o.n o.s).1
  have ec:=h.eq.c
  have el:=h.live
  have hmem:s'.mem.length≤65536:=by
    have a:=h1.cf.mem
    have b:=h1.cf.tp.ok.facts
    omega
  have eg:giveM m o=if (giveR m (manyS m.c.G m.c.N m.c.M m.live o.n o.s) (productS s.c.N o.n o.s).1).2.err=0 then ({ (giveR m (manyS m.c.G m.c.N m.c.M m.live o.n o.s) (productS s.c.N o.n o.s).1).1 with mem:=zeroP (giveR m (manyS m.c.G m.c.N m.c.M m.live o.n o.s) (productS s.c.N o.n o.s).1).1.mem (giveR m (manyS m.c.G m.c.N m.c.M m.live o.n o.s) (productS s.c.N o.n o.s).1).2.at_ (manyS m.c.G m.c.N m.c.M m.live o.n o.s).1 },(giveR m (manyS m.c.G m.c.N m.c.M m.live o.n o.s) (productS s.c.N o.n o.s).1).2) else giveR m (manyS m.c.G m.c.N m.c.M m.live o.n o.s) (productS s.c.N o.n o.s).1:=by
    unfold giveM giveR
    simp only [if_pos hk]
    by_cases h2:(manyS m.c.G m.c.N m.c.M m.live o.n o.s).2=0
    · have hp:=manyS_prod h2 (by rw [ec];omega)
      rw [ec] at hp
      simp only [if_pos h2]
      rw [hp]
      by_cases hq:(placeM m m.bl (manyS m.c.G m.c.N m.c.M m.live o.n o.s).1 (wrap64 (o.n*o.s))).2.2=0
      · simp only [if_pos hq,if_true]
      · simp only [if_neg hq,errA]
    · simp only [if_neg h2,errA]
  have hz:(giveR m (manyS m.c.G m.c.N m.c.M m.live o.n o.s) (productS s.c.N o.n o.s).1).2.err=0→0≤(giveR m (manyS m.c.G m.c.N m.c.M m.live o.n o.s) (productS s.c.N o.n o.s).1).2.at_∧0≤(manyS m.c.G m.c.N m.c.M m.live o.n o.s).1∧(giveR m (manyS m.c.G m.c.N m.c.M m.live o.n o.s) (productS s.c.N o.n o.s).1).2.at_+(manyS m.c.G m.c.N m.c.M m.live o.n o.s).1≤s'.mem.length:=by
    have hH:(s'.mem.length:Int)=(giveR m (manyS m.c.G m.c.N m.c.M m.live o.n o.s) (productS s.c.N o.n o.s).1).1.c.H:=by rw [h1.eq.c];exact h1.cf.mem
    intro hz
    rw [hH]
    unfold giveR at hz ⊢
    rcases cm with ⟨c1,_⟩ | ⟨c1,c2,k,c3,c4⟩
    · rw [if_neg c1] at hz;exact absurd hz c1
    · rw [if_pos c1] at hz ⊢
      have z:=Nat.two_pow_pos (e+k)
      by_cases hq:(placeM m m.bl (manyS m.c.G m.c.N m.c.M m.live o.n o.s).1 (productS s.c.N o.n o.s).1).2.2=0
      · rw [if_pos hq] at hz ⊢
        obtain ⟨k1,k2,k3,k4⟩:=placeM_ok h.ok (by omega) h.ok.bl (by rw [← h.ok.live];exact c2) hq
        rw [k2]
        exact ⟨k3,by omega,k4⟩
      · rw [if_neg hq] at hz;exact absurd hz hq
  rw [eg]
  generalize giveR m (manyS m.c.G m.c.N m.c.M m.live o.n o.s) (productS s.c.N o.n o.s).1=X at *
  rw [ec,el] at hz e1 ⊢
  obtain ⟨G2,e2,h2,f2⟩:=F15.sp h.raw h.cf.tp.ok h.small hn hs h1.raw e1 hz hmem
  have fr:FrX (s.X hid) G G2:=f1.trans (by rw [← x1];exact f2)
  by_cases h0:X.2.err=0
  · obtain ⟨z1,z2,z3⟩:=hz h0
    rw [if_pos h0]
    rw [if_pos h0,← zeroP_eq z1 z2 z3] at h2
    refine ⟨G2,{ s' with mem:=zeroP s'.mem X.2.at_ (manyS s.c.G s.c.N s.c.M s.live o.n o.s).1 },e2,?_,fr,x1⟩
    dsimp only
    rw [h1.eq.mem]
    exact h1.setMem (zeroP_len _ _ _) h2
  · rw [if_neg h0]
    rw [if_neg h0] at h2
    exact ⟨G2,s',e2,⟨h2,h1.cf,h1.bl,h1.eq,h1.live,h1.ok⟩,fr,x1⟩
def goneS (s:HS) (b:Blk) (A k q tid sid:Nat):HS :=
  { s.eng tid sid (useG false (q*2 ^ k) (q*2 ^ k+2 ^ k-1) s.g) (s.ms.take A++s.ms.drop (A+1)) with es:=mapDel s.es (kv b.at_),met:=metQ s.met (pagesP s.c.Pg b.at_ b.ch).1 (pagesP s.c.Pg b.at_ b.ch).2 (-1),live:=s.live-b.ch }
theorem gone_M (raw:HRaw G hid s) (c:HCf s e l u) (hb:HBl s e l u bl) (hl:s.live=chSum bl) (hM:chSum bl≤s.c.M) {A:Nat} (hA:A<bl.length) :
    ∃ (k q tid sid:Nat) (G':GH),CW F27.id [.c (.ptr hid 0),vB bl[A]] G=some ([],G')∧HRaw G' hid (goneS s bl[A] A k q tid sid)∧FrX (s.X hid) G G'∧HCf (goneS s bl[A] A k q tid sid) e l u∧HBl (goneS s bl[A] A k q tid sid) e l u (bl.take A++bl.drop (A+1)):=by
  have f:=c.tp.ok.facts
  have sm:=hb.sm c hl hM
  have hmem:=c.mem
  have hin:=hb.bin _ (List.getElem_mem hA)
  have bok:=hin.ok c.tp
  obtain ⟨k,a,hk,hch,hat0,ha⟩:=hin
  have hat:bl[A].at_=((a*2 ^ k*2 ^ e:Nat):Int):=by rw [hat0,Nat.mul_assoc,← Nat.pow_add,Nat.add_comm k e]
  have hms:s.ms=bl.map (mkB e):=hb.ms
  have hi:A<s.ms.length:=by rw [hms,List.length_map];exact hA
  have hm:s.ms[A]=(((a*2 ^ k*2 ^ e:Nat):Int),(k:Int)):=by
    have:∀ ms (h:A<ms.length),ms=bl.map (mkB e)→ms[A]=mkB e bl[A]:=by rintro ms h rfl;simp
    rw [this _ hi hms]
    unfold mkB
    rw [hch,clsOf_pow,hat]
  have hq:a*2 ^ k+2 ^ k≤s.sz 0:=by
    have hH:=(c.tp.ok.ceil (k:=(k:Int)) (by omega) (by rw [c.tp.ex.hL];omega)).2.1
    rw [c.tp.ceil hk,← c.mem,← c.sz] at hH
    have t1:(a+1)*2 ^ (e+k)≤tP l u k*(2+k)*2 ^ (e+k):=Nat.mul_le_mul_right _ ha
    have t2:(a+1)*2 ^ (e+k)≤2 ^ e*s.sz 0:=by
      generalize tP l u k*(2+k)*2 ^ (e+k)=T at *
      omega
    rw [Nat.pow_add,Nat.mul_comm (2 ^ e) (2 ^ k),← Nat.mul_assoc,Nat.mul_comm (2 ^ e)] at t2
    have t3:=Nat.le_of_mul_le_mul_right t2 (Nat.two_pow_pos e)
    rw [Nat.add_mul,Nat.one_mul] at t3
    exact t3
  obtain ⟨tid,sid,G',e1,r1,f1⟩:=F27.sp (asked:=bl[A].asked) raw sm c.so (Gg:=2 ^ e) (k:=k) (q:=a*2 ^ k) (i:=A) c.tp.ex.hG ⟨Nat.two_pow_pos e,by rw [c.sz];omega⟩ (by rw [c.C];omega) hi hm hq hat (by omega) (by omega:0≤bl[A].ch∧bl[A].ch≤65536)
  refine ⟨k,a,tid,sid,G',e1,r1,f1,⟨c.tp,c.C,c.so,c.sz,c.mem,c.on,by show (metQ s.met _ _ (-1)).length=_;rw [metQ_len];exact c.met,c.mm⟩,hb.del c hA hat hch hk rfl rfl rfl rfl rfl rfl⟩
end Go.Proofs.D.S
/- A heap and its model: a block is asked for anew;every call. -/
set_option linter.unusedVariables false
set_option linter.unusedSimpArgs false
namespace Go.Proofs.D.S
open Go Go.RowKit
variable {G G' G0 G1:GH} {hid:Nat} {s:HS} {e l u:Nat} {bl:List Blk} {m:Mod}
theorem HRaw.slMem (h:HRaw G hid s):Sl G eU8 s.mmi 0 s.mem:=.inr ⟨_,row_row h.mem,by omega,by rw [List.drop_zero,List.take_length]⟩
theorem realloc_M (h:HM G hid s e l u m) {o:OpV} (ho:o.k=4) {A:Nat} (hA:A<m.bl.length) :
    HDo G hid s e l u (CW F13.id [.c (.ptr hid 0),vB m.bl[A],.c (.int .i64 o.s)] G) (ofM m o A m.bl[A]):=by
  have f:=h.cf.tp.ok.facts
  have hsm:=h.small
  have hmem:=h.cf.mem
  have hin:=h.bl.bin _ (List.getElem_mem hA)
  have bok:=hin.ok h.cf.tp
  have hbin:=h.ok.bl _ (List.getElem_mem hA)
  rw [h.eq.c,← hmem] at hbin
  have ec:=h.eq.c
  have elv:=h.live
  have hl:=h.ok.live
  have hlim:=h.ok.lim
  have hrest:=chSum_rest hA
  have hrl:=chSum_len (h.ok.bl.rest A)
  have ad:=F58.sp (G:=G) h.cf.tp.ok (live:=s.live) (old:=m.bl[A].ch) (s:=o.s) (by omega)
  rw [cfC] at ad
  have cr:=charge_new h.cf.tp.ex (s.live-m.bl[A].ch) o.s 1
  obtain ⟨l0,l1,l2,l3,l4,l5,l6,l7⟩:=h.raw.conf
  have ldc:∀ {G':GH} {R:List (Nat×Obj)},Hp G G' R→∀ k,G'.ld hid k=s.cells[k]?:=fun k j=>(h.raw.keep k).ld j
  have l12:G.ld hid 12=some (.int .i64 s.live):=by rw [h.raw.ld];rfl
  have l17:G.ld hid 17=some (.sl 1 s.mmi 0 s.mem.length):=by rw [h.raw.ld];rfl
  have l8:G.ld hid 8=some (.int .i64 s.c.G):=by rw [h.raw.ld];rfl
  have l9:G.ld hid 9=some (.sl 2 s.tid 0 s.C):=by rw [h.raw.ld];rfl
  have l10:G.ld hid 10=some (.sl 2 s.sid 0 s.ms.length):=by rw [h.raw.ld];rfl
  have hof:ofM m o A m.bl[A]=if (newS s.c.G s.c.N s.c.M (s.live-m.bl[A].ch) o.s 1).2=0 then
      (if (placeM m (m.bl.take A++m.bl.drop (A+1)) (newS s.c.G s.c.N s.c.M (s.live-m.bl[A].ch) o.s 1).1 o.s).2.2=0 then
        ({ (placeM m (m.bl.take A++m.bl.drop (A+1)) (newS s.c.G s.c.N s.c.M (s.live-m.bl[A].ch) o.s 1).1 o.s).1 with mem:=(placeM m (m.bl.take A++m.bl.drop (A+1)) (newS s.c.G s.c.N s.c.M (s.live-m.bl[A].ch) o.s 1).1 o.s).1.mem.take (placeM m (m.bl.take A++m.bl.drop (A+1)) (newS s.c.G s.c.N s.c.M (s.live-m.bl[A].ch) o.s 1).1 o.s).2.1.toNat++(m.mem.drop m.bl[A].at_.toNat).take (min (newS s.c.G s.c.N s.c.M (s.live-m.bl[A].ch) o.s 1).1 m.bl[A].ch).toNat++(placeM m (m.bl.take A++m.bl.drop (A+1)) (newS s.c.G s.c.N s.c.M (s.live-m.bl[A].ch) o.s 1).1 o.s).1.mem.drop ((placeM m (m.bl.take A++m.bl.drop (A+1)) (newS s.c.G s.c.N s.c.M (s.live-m.bl[A].ch) o.s 1).1 o.s).2.1+min (newS s.c.G s.c.N s.c.M (s.live-m.bl[A].ch) o.s 1).1 m.bl[A].ch).toNat },⟨0,(placeM m (m.bl.take A++m.bl.drop (A+1)) (newS s.c.G s.c.N s.c.M (s.live-m.bl[A].ch) o.s 1).1 o.s).2.1,0,0,0,0,0,0⟩)
      else (m,errA (placeM m (m.bl.take A++m.bl.drop (A+1)) (newS s.c.G s.c.N s.c.M (s.live-m.bl[A].ch) o.s 1).1 o.s).2.2)) else (m,errA (newS s.c.G s.c.N s.c.M (s.live-m.bl[A].ch) o.s 1).2):=by
    unfold ofM
    rw [if_pos ho,ec,elv]
  rw [hof]
  clear hof
  unfold vB
  rw [F13.cw]
  unfold F13.f
  rw [guardK_of (nb0 h.raw.h0)]
  simp only [Nat.zero_add,Nat.add_zero,Nat.reduceAdd,l0,l1,l2,l3,l4,l5,l6,l7,Qs]
  rw [guardK_of (nb0 h.raw.h0),l12]
  simp only [Qs]
  rw [ad]
  simp only [Qs]
  generalize hr:newS s.c.G s.c.N s.c.M (s.live-m.bl[A].ch) o.s 1=r at *
  rcases cr with ⟨c1,_⟩ | ⟨c1,c2,k,hk,he⟩
  · rw [if_neg c1,condN_pos c1]
    exact ⟨G,s,rfl,h,FrX.refl,rfl⟩
  · rw [if_pos c1,condN_neg c1,guardK_of (nb0 h.raw.h0),l17]
    simp only [Qs]
    have z:=Nat.two_pow_pos (e+k)
    obtain ⟨a,ea⟩:∃ a:Nat,m.bl[A].at_=(a:Int):=⟨m.bl[A].at_.toNat,by omega⟩
    obtain ⟨n,en⟩:∃ n:Nat,min m.bl[A].ch r.1=(n:Int):=⟨(min m.bl[A].ch r.1).toNat,by omega⟩
    have en2:min r.1 m.bl[A].ch=(n:Int):=by omega
    have hn1:1≤n:=by omega
    have han:a+n≤s.mem.length:=by omega
    have hnr:(n:Int)≤r.1:=by omega
    rw [mn2_eq,en,ea,i64w,wrap_id (by omega) (by omega),guardD_of (by omega),guardK_of (nb0 h.raw.h0)]
    have et:((a:Int)+(n:Int)).toNat-(a:Int).toNat=n:=by omega
    simp only [l8,l9,l10,Qs]
    rw [et,Int.toNat_natCast]
    have xl:((s.mem.drop a).take n).length=n:=by simp only [List.length_take,List.length_drop];omega
    have sl0:=h.raw.slMem.sub (k:=1) a n han
    rw [Nat.zero_add] at sl0
    have mm0:=h.cf.mm
    obtain ⟨cid,G1,k1,k2,k3⟩:=F6.sp h.raw.w mm0 sl0 (by omega)
    rw [xl] at k1
    rw [Nat.zero_add,k1]
    have j8:G1.ld hid 8=some (.int .i64 s.c.G):=by rw [ldc k2];rfl
    have j9:G1.ld hid 9=some (.sl 2 s.tid 0 s.C):=by rw [ldc k2];rfl
    have j10:G1.ld hid 10=some (.sl 2 s.sid 0 s.ms.length):=by rw [ldc k2];rfl
    simp only [j8,j9,j10,Qs]
    rw [guardD_of trivial]
    have h1:=h.keep k2
    have sx1:Sx (s.X hid) G1 eU8 cid 0 ((s.mem.drop a).take n):=k2.sx (List.mem_cons_self ..) h.raw.ids
    obtain ⟨kk,q,tid,sid,G2,g1,g2,g3,g4,g5⟩:=gone_M h1.raw h1.cf h1.bl (by omega) (by rw [← hl,← ec];exact hlim) hA
    unfold vB at g1
    rw [ea] at g1
    rw [g1]
    simp only [Qs]
    have eq2:HEq (goneS s m.bl[A] A kk q tid sid) m:=⟨h.eq.c,h.eq.peak,h.eq.mark,h.eq.on,h.eq.mem⟩
    have gl:(goneS s m.bl[A] A kk q tid sid).live=chSum (m.bl.take A++m.bl.drop (A+1)):=by show s.live-m.bl[A].ch=_;omega
    have gM:chSum (m.bl.take A++m.bl.drop (A+1))+((2 ^ (e+k):Nat):Int)≤(goneS s m.bl[A] A kk q tid sid).c.M:=by
      show _≤s.c.M;rw [← he];omega
    obtain ⟨n7,G3,s3,p1,p2,p3,p4,bad,good⟩:=puts_M g2 g4 g5 eq2 gl hk gM o.s
    have fr3:FrX (s.X hid) G1 G3:=g3.trans p3
    have frA:FrX (s.X hid) G G3:=(FrX.hp k2).trans fr3
    have sx3:=sx1.fr fr3 k2.wf
    rw [← he] at p1 bad good
    have pl:=placeM_ok h.ok (l:=m.bl.take A++m.bl.drop (A+1)) (n:=r.1) (asked:=o.s) (by omega) (h.ok.bl.rest A) (by rw [ec,he];exact gM)
    have pat:=placeM_at (m:=m) (l:=m.bl.take A++m.bl.drop (A+1)) (n:=r.1) (asked:=o.s) (by omega) (by rw [ec];omega)
    rw [F26.good p1]
    simp only [Qs,List.length_cons,List.length_nil,if_true,Nat.zero_add,Nat.reduceAdd]
    generalize hQ:placeM m (m.bl.take A++m.bl.drop (A+1)) r.1 o.s=Q at *
    by_cases hq:Q.2.2=0
    · obtain ⟨c3,b3,q3,lv3,lv4,a3,a4,ml⟩:=good hq
      obtain ⟨k1',k2',k3',k4'⟩:=pl hq
      have gml:(goneS s m.bl[A] A kk q tid sid).mem.length=s.mem.length:=rfl
      rw [gml] at ml a4
      rw [if_pos hq,condN_neg hq,guardK_of (nb0 h.raw.h0)]
      have m17:G3.ld hid 17=some (.sl 1 s3.mmi 0 s3.mem.length):=by rw [p2.ld];rfl
      obtain ⟨b,eb⟩:∃ b:Nat,Q.2.1=(b:Int):=⟨Q.2.1.toNat,by omega⟩
      rw [eb] at a3 a4 ⊢
      simp only [m17,Qs,Int.toNat_natCast]
      rw [guardD_of (by omega),if_neg (by omega)]
      have hml:s.mem.length-b≥n:=by omega
      have hmin:min n (s3.mem.length-b)=n:=by omega
      rw [hmin]
      have ld3:=sx3.1.lds (k:=1) xl.symm
      rw [if_neg (by omega)] at ld3
      rw [ld3]
      simp only [Qs]
      obtain ⟨G4,e4,h4,f4⟩:=p2.wr (a:=b) (new:=(s.mem.drop a).take n) (by rw [xl];omega)
      rw [Nat.zero_add,e4]
      simp only [Qs]
      rw [F13.J24_eq]
      have hm3:HM G3 hid s3 e l u Q.1:=⟨p2,c3,b3,q3,lv3.symm,k1'⟩
      have eX:s3.X hid=s.X hid:=p4
      have hfin:=hm3.setMem (mem':=s3.mem.take b++(s.mem.drop a).take n++s3.mem.drop (b+((s.mem.drop a).take n).length)) (by simp only [List.length_append,List.length_take,List.length_drop];omega) h4
      refine ⟨G4,{ s3 with mem:=s3.mem.take b++(s.mem.drop a).take n++s3.mem.drop (b+((s.mem.drop a).take n).length) },by rw [hq],?_,frA.trans (by rw [← eX];exact f4),eX⟩
      have e5:((b:Int)+min r.1 m.bl[A].ch).toNat=b+((s.mem.drop a).take n).length:=by rw [xl,en2];omega
      dsimp only
      rw [e5,en2,Int.toNat_natCast,q3.mem,h.eq.mem]
      exact hfin
    · have:=bad hq
      subst this
      have eng3:EngR (s.X hid) G3 s.tid s.sid s.C s.sz s.g s.ms:=h1.raw.eng.fr fr3 h1.raw.w
      have zz:=g5.sm g4 gl (by have:=gM;omega)
      obtain ⟨G4,b1,b2,b3⟩:=F23.sp p2 zz (a:=m.bl[A].at_) (ch:=m.bl[A].ch) (asked:=m.bl[A].asked) (by omega) (by omega) (g:=s.g) (ms:=s.ms) (tid:=s.tid) (sid:=s.sid) eng3
      rw [if_neg hq,condN_pos hq]
      have b1':CW F23.id [.c (.ptr hid 0),.agg [.int .i64 (a:Int),.int .i64 m.bl[A].ch,.int .i64 m.bl[A].asked],.agg [.int .i64 s.c.G,.sl 2 s.tid 0 s.C,.sl 2 s.sid 0 s.ms.length]] G3=some ([],G4):=by rw [← ea];exact b1
      rw [b1']
      simp only [Qs]
      have at0:=pat hq
      rw [at0]
      refine ⟨G4,_,rfl,⟨b2,⟨h.cf.tp,h.cf.C,h.cf.so,h.cf.sz,h.cf.mem,h.cf.on,?_,h.cf.mm⟩,?_,⟨h.eq.c,h.eq.peak,h.eq.mark,h.eq.on,h.eq.mem⟩,?_,h.ok⟩,frA.trans b3,rfl⟩
      · show (metQ (metQ s.met _ _ (-1)) _ _ 1).length=_
        rw [metQ_len,metQ_len];exact h.cf.met
      · exact h.bl.again h.cf hA rfl rfl rfl rfl rfl rfl
      · show m.live=s.live-m.bl[A].ch+m.bl[A].ch
        omega
end Go.Proofs.D.S
/- A heap and its model: every call. -/
set_option linter.unusedVariables false
set_option linter.unusedSimpArgs false
namespace Go.Proofs.D.S
open Go Go.RowKit
variable {G G' G0 G1:GH} {hid:Nat} {s:HS} {e l u:Nat} {bl:List Blk} {m:Mod}
theorem F40.blk (h0:1≤hid) {o:OpV} (hk:4≤o.k∧o.k≤8) {x:AnsV} (k:CW F19.id [.c (.ptr hid 0),.agg (eOp o)] G=some ([.agg (eAns x)],G')) :
    CW F40.id [.c (.ptr hid 0),.agg (eOp o)] G=some ([.agg (eAns x)],G'):=by
  have k2:∀ t:Bool,t=true→F40.J56 machW CW hid 0 o.k t o.k o.p o.s o.a o.n o.b 0 0 0 0 0 0 0 0 G=some ([.agg (eAns x)],G'):=by
    rintro t rfl
    rw [F40.J56_eq,q_ct,k]
    simp only [Qs,List.length_cons,List.length_nil,if_true,Nat.zero_add,Nat.reduceAdd]
  rw [F40.cw]
  unfold F40.f
  rw [nbf h0,q_xf,q_cf,condD_neg (by omega),condD_neg (by omega),condD_neg (by omega)]
  by_cases k4:o.k=4
  · rw [condD_pos k4];exact k2 _ (decide_eq_true k4)
  rw [condD_neg k4]
  by_cases k5:o.k=5
  · rw [condD_pos k5];exact k2 _ (decide_eq_true k5)
  rw [condD_neg k5]
  by_cases k6:o.k=6
  · rw [condD_pos k6];exact k2 _ (decide_eq_true k6)
  rw [condD_neg k6]
  by_cases k7:o.k=7
  · rw [condD_pos k7];exact k2 _ (decide_eq_true k7)
  rw [condD_neg k7]
  exact k2 _ (decide_eq_true (by omega))
theorem block_M (h:HM G hid s e l u m) {o:OpV} (hk:4≤o.k∧o.k≤8) {A:Nat} (hA:A<m.bl.length) (hp:findB m.bl o.p=some A) :
    HDo G hid s e l u (CW F19.id [.c (.ptr hid 0),.agg (eOp o)] G) (ofM m o A m.bl[A]):=by
  have f:=h.cf.tp.ok.facts
  have hmem:=h.cf.mem
  have hb:=h.ok.bl _ (List.getElem_mem hA)
  have hm0:mapGet s.es (kv o.p)=some (vB m.bl[A]):=by rw [h.bl.get,hp,Option.bind_some,List.getElem?_eq_getElem hA];rfl
  have hm:mapGet s.es (kv o.p)=some (bv m.bl[A].at_ m.bl[A].ch m.bl[A].asked):=hm0
  rw [h.eq.c,← hmem] at hb
  obtain ⟨k,p,sz,a,n,b⟩:=o
  dsimp only at hk hm hp ⊢
  by_cases k4:k=4
  · subst k4
    obtain ⟨G',s',e1,x⟩:=realloc_M h (o:=⟨4,p,sz,a,n,b⟩) rfl hA
    exact ⟨G',s',F19.realloc h.raw hm e1,x⟩
  by_cases k5:k=5
  · subst k5
    obtain ⟨kk,q,tid,sid,G',g1,g2,g3,g4,g5⟩:=gone_M h.raw h.cf h.bl (by rw [← h.live];exact h.ok.live) (by rw [← h.ok.live,← h.eq.c];exact h.ok.lim) hA
    refine ⟨G',goneS s m.bl[A] A kk q tid sid,?_,⟨g2,g4,?_,?_,?_,(ofM_ok h.ok ⟨5,p,sz,a,n,b⟩ hA).1⟩,g3,rfl⟩
    · rw [F19.free h.raw hm g1];unfold ofM;rfl
    · have:(ofM m ⟨5,p,sz,a,n,b⟩ A m.bl[A]).1.bl=m.bl.take A++m.bl.drop (A+1):=by unfold ofM;rfl
      rw [this];exact g5
    · have:(ofM m ⟨5,p,sz,a,n,b⟩ A m.bl[A]).1 = { m with bl:=m.bl.take A++m.bl.drop (A+1),live:=m.live-m.bl[A].ch }:=by unfold ofM;rfl
      rw [this];exact ⟨h.eq.c,h.eq.peak,h.eq.mark,h.eq.on,h.eq.mem⟩
    · have:(ofM m ⟨5,p,sz,a,n,b⟩ A m.bl[A]).1 = { m with bl:=m.bl.take A++m.bl.drop (A+1),live:=m.live-m.bl[A].ch }:=by unfold ofM;rfl
      rw [this];show m.live-m.bl[A].ch=s.live-m.bl[A].ch;rw [h.live]
  by_cases k6:k=6
  · subst k6
    have:ofM m ⟨6,p,sz,a,n,b⟩ A m.bl[A]=(m,⟨0,0,m.bl[A].ch,0,0,0,0,0⟩):=by unfold ofM;rfl
    rw [this]
    exact ⟨G,s,F19.usable h.raw hm,h,FrX.refl,rfl⟩
  have k78:k=7∨k=8:=by omega
  by_cases hn:n<0∨n≥m.bl[A].ch
  · have:ofM m ⟨k,p,sz,a,n,b⟩ A m.bl[A]=(m,errA 9):=by
      unfold ofM
      dsimp only
      rw [if_neg k4,if_neg k5,if_neg k6,if_pos hn]
    rw [this]
    exact ⟨G,s,F19.bound h.raw k78 hm hn,h,FrX.refl,rfl⟩
  obtain ⟨at_,ea⟩:∃ at_:Nat,m.bl[A].at_=(at_:Int):=⟨m.bl[A].at_.toNat,by omega⟩
  obtain ⟨nn,en⟩:∃ nn:Nat,n=(nn:Int):=⟨n.toNat,by omega⟩
  subst en
  rw [ea] at hm
  have hi:at_+nn<s.mem.length:=by omega
  have et:((at_:Int)+(nn:Int)).toNat=at_+nn:=by omega
  by_cases k7:k=7
  · subst k7
    have:ofM m ⟨7,p,sz,a,(nn:Int),b⟩ A m.bl[A]=(m,⟨0,0,0,s.mem[at_+nn],0,0,0,0⟩):=by
      unfold ofM
      dsimp only
      rw [if_neg k4,if_neg k5,if_neg k6,if_neg hn,if_pos rfl,ea,et,h.eq.mem,getD_lt _ hi]
    rw [this]
    exact ⟨G,s,F19.load h.raw hm (by omega) hi (by omega),h,FrX.refl,rfl⟩
  · have k8:k=8:=by omega
    subst k8
    obtain ⟨G',e1,h1,f1⟩:=F19.store h.raw hm (p:=p) (sz:=sz) (a:=a) (b:=b) (n:=nn) (by omega) hi (by omega)
    have:ofM m ⟨8,p,sz,a,(nn:Int),b⟩ A m.bl[A]=({ m with mem:=s.mem.set (at_+nn) b },errA 0):=by
      unfold ofM
      dsimp only
      rw [if_neg k4,if_neg k5,if_neg k6,if_neg hn,if_neg k7,ea,et,h.eq.mem]
    rw [this]
    exact ⟨G',_,e1,h.setMem (by simp) h1,f1,rfl⟩
theorem F40.sp (h:HM G hid s e l u m) (o:OpV) (hs:R64 o.s) (ha:R64 o.a) (hn:R64 o.n):HDo G hid s e l u (CW F40.id [.c (.ptr hid 0),.agg (eOp o)] G) (doM m o):=by
  have h0:=h.raw.h0
  have hol:=h.cf.onl
  unfold doM
  by_cases k1:o.k=1
  · rw [if_pos (.inl k1)]
    obtain ⟨G',s',e1,x⟩:=aligned_M h (o:=o) (al:=1) (by omega) (by rw [if_neg (by omega)]) (by unfold R64;omega)
    refine ⟨G',s',?_,x⟩
    rw [F40.cw]
    unfold F40.f
    rw [nbf h0,q_xf,q_cf,condD_pos k1,e1]
    simp only [Qs,List.length_cons,List.length_nil,if_true,Nat.zero_add,Nat.reduceAdd]
  by_cases k2:o.k=2
  · rw [if_pos (.inr (.inl k2))]
    obtain ⟨G',s',e1,x⟩:=calloc_M h k2 hn hs
    refine ⟨G',s',?_,x⟩
    rw [F40.cw]
    unfold F40.f
    rw [nbf h0,q_xf,q_cf,condD_neg k1,condD_pos k2,e1]
    simp only [Qs,List.length_cons,List.length_nil,if_true,Nat.zero_add,Nat.reduceAdd]
  by_cases k3:o.k=3
  · rw [if_pos (.inr (.inr k3))]
    obtain ⟨G',s',e1,x⟩:=aligned_M h (o:=o) (al:=o.a) (by omega) (by rw [if_pos k3]) ha
    refine ⟨G',s',?_,x⟩
    rw [F40.cw]
    unfold F40.f
    rw [nbf h0,q_xf,q_cf,condD_neg k1,condD_neg k2,condD_pos k3,e1]
    simp only [Qs,List.length_cons,List.length_nil,if_true,Nat.zero_add,Nat.reduceAdd]
  rw [if_neg (by omega)]
  by_cases k9:o.k=9
  · rw [if_pos k9]
    obtain ⟨k,p,sz,a,n,b⟩:=o
    dsimp only at k9
    subst k9
    obtain ⟨oni,G',e1,h1,f1⟩:=F40.trim h.raw (by omega) h.cf.met (p:=p) (sz:=sz) (a:=a) (n:=n) (b:=b)
    have hpg:=h.bl.pages
    rw [h.cf.met] at hpg
    rw [hpg] at e1 h1
    have b1:=h.ok.bl
    have b2:=h.ok.lim
    have b3:=h.ok.mem
    rw [h.eq.c] at b1 b2 b3
    rw [h.eq.c,h.eq.on]
    have tl:(trimP s.on (metP s.c.Pg s.on.length m.bl)).length=s.on.length:=by unfold trimP;rw [tab_len]
    refine ⟨G',{ s with oni:=oni,on:=trimP s.on (metP s.c.Pg s.on.length m.bl) },e1,⟨h1,⟨h.cf.tp,h.cf.C,h.cf.so,h.cf.sz,h.cf.mem,?_,?_,h.cf.mm⟩,⟨h.bl.ms,h.bl.es,h.bl.met,h.bl.g,h.bl.srt,h.bl.bin⟩,⟨rfl,h.eq.peak,h.eq.mark,rfl,h.eq.mem⟩,h.live,⟨h.cf.tp.ok,b1,h.ok.live,b2,h.ok.peak,h.ok.mark,?_,b3⟩⟩,f1,rfl⟩
    · show (((trimP s.on _).length:Nat):Int)*s.c.Pg=_
      rw [tl];exact h.cf.on
    · show s.met.length=(trimP s.on _).length
      rw [tl];exact h.cf.met
    · show (((trimP s.on _).length:Nat):Int)*s.c.Pg=s.c.H
      rw [tl];exact h.cf.on
  rw [if_neg k9]
  by_cases k10:o.k=10
  · rw [if_pos k10]
    obtain ⟨k,p,sz,a,n,b⟩:=o
    dsimp only at k10
    subst k10
    refine ⟨G,s,?_,h,FrX.refl,rfl⟩
    rw [F40.figures h.raw (by omega),h.live,h.eq.peak,h.eq.mark,h.eq.on]
  rw [if_neg k10]
  by_cases k48:4≤o.k∧o.k≤8
  · rw [if_pos (by omega)]
    cases hf:findB m.bl o.p with
    | none =>
      have hm:mapGet s.es (kv o.p)=none:=by rw [h.bl.get,hf];rfl
      exact ⟨G,s,F40.blk h0 k48 (F19.none h.raw hm),h,FrX.refl,rfl⟩
    | some A =>
      obtain ⟨hA,_⟩:=findB_lt hf
      dsimp only
      rw [getD_lt _ hA]
      obtain ⟨G',s',e1,x⟩:=block_M h k48 hA hf
      exact ⟨G',s',F40.blk h0 k48 e1,x⟩
  · rw [if_neg (by omega)]
    refine ⟨G,s,?_,h,FrX.refl,rfl⟩
    rw [F40.cw]
    unfold F40.f
    rw [nbf h0,q_xf,q_cf,condD_neg k1,condD_neg k2,condD_neg k3,condD_neg (by omega),condD_neg (by omega),condD_neg (by omega),condD_neg (by omega),F40.J56_eq,decide_eq_false (show ¬ o.k=8 by omega),q_cf,condD_neg k9,condD_neg k10]
    rfl
end Go.Proofs.D.S
/- A heap begins;its blocks are told. -/
set_option linter.unusedVariables false
set_option linter.unusedSimpArgs false
namespace Go.Proofs.D.S
open Go Go.RowKit
variable {G G' G0 G1:GH} {hid:Nat} {s:HS} {e l u:Nat} {bl:List Blk} {m:Mod}
def szN (l u k:Nat):Nat:=(2+l)*u*2 ^ (l-k)
theorem Cf.Tp.szH {c:Cf} (tp:c.Tp e l u):c.H=((2 ^ e*szN l u 0:Nat):Int):=by
  have h1:=tp.ceil (k:=l) (Nat.le_refl _)
  have h2:=(tp.ok.ceil (k:=(l:Int)) (by omega) (by rw [tp.ex.hL];omega)).1
  have h3:c.H=c.M+c.L*(c.M / 2):=tp.ok.hH
  rw [tp.ex.hL,← h2,h1] at h3
  rw [h3]
  congr 1
  unfold tP szN
  rw [Nat.sub_self,Nat.pow_zero,Nat.mul_one,Nat.sub_zero,Nat.pow_add,Nat.mul_comm u,Nat.mul_comm (2 ^ e) (2 ^ l),← Nat.mul_assoc,Nat.mul_comm]
theorem szN_ok {c:Cf} (tp:c.Tp e l u):SzOk (l+1) (szN l u)∧∀ k,k<l+1→1≤szN l u k:=by
  have f:=tp.ok.facts
  have hl:l≤16:=by have:=tp.ex.hgl;omega
  have hs:=tp.szH
  have z:=Nat.two_pow_pos e
  have h0:szN l u 0≤2 ^ e*szN l u 0:=Nat.le_mul_of_pos_left _ z
  refine ⟨⟨⟨by omega,by omega⟩,fun k hk=>?_,fun k hk=>?_,by omega⟩,fun k hk=>?_⟩
  · unfold szN
    rw [show l-k=(l-(k+1))+1 by omega,Nat.pow_succ,← Nat.mul_assoc,Nat.mul_comm]
  · unfold szN
    rw [Nat.mul_assoc,← Nat.pow_add,show l-k+k=l-0 by omega]
  · unfold szN
    exact Nat.mul_pos (Nat.mul_pos (by omega) tp.hu) (Nat.two_pow_pos _)
theorem F76.sp (w:G.wf) {r:Rw} (hr:(ofC r).2=0):∃ (hid:Nat) (s:HS) (e l u:Nat) (G':GH),CW F76.id [.agg (rwC r)] G=some ([.c (.ptr hid 0),.c (.int .i64 0)],G')∧Hp G G' []∧HM G' hid s e l u (newM (ofC r).1)∧∀ x∈s.X hid,G.next≤x:=by
  have hmost:(1000000001:Nat)≤most:=by unfold most;decide
  have ok:=ofC_ok hr
  obtain ⟨G1,e1,h1⟩:=F87.sp r w
  rw [hr] at e1
  generalize (ofC r).1=c at *
  have f:=ok.facts
  obtain ⟨e,l,u,tp⟩:=ok.tp
  obtain ⟨np,hnp⟩:=ok.pages
  have eHP:c.H / c.Pg=(np:Int):=by rw [hnp,Int.mul_ediv_cancel _ (by omega)]
  obtain ⟨so,hpos⟩:=szN_ok tp
  have hsH:=tp.szH
  have hl16:l≤16:=by have:=tp.ex.hgl;omega
  have ze:=Nat.two_pow_pos e
  have hnpl:(np:Int)≤c.H:=by
    have:=Int.mul_le_mul_of_nonneg_left (show (1:Int)≤c.Pg by omega) (show (0:Int)≤(np:Int) by omega)
    rw [hnp];omega
  have q1:binD .quo .i64 c.H c.Pg=some (np:Int):=by
    rw [binD_quo (by omega),Int.tdiv_eq_ediv_of_nonneg (by omega),eHP,i64w,wrap_id (by omega) (by omega)]
  have q2:binD .quo .i64 c.H c.G=some ((szN l u 0:Nat):Int):=by
    have hs0:szN l u 0≤65536:=so.top
    rw [binD_quo (by omega),Int.tdiv_eq_ediv_of_nonneg (by omega),hsH,tp.ex.hG,Int.natCast_mul,Int.mul_ediv_cancel_left _ (by omega),i64w,wrap_id (by omega) (by omega)]
  rw [F76.cw]
  unfold F76.f
  rw [e1]
  simp only [Qs,List.length_cons,List.length_nil,if_true,Nat.zero_add,Nat.reduceAdd]
  rw [condN_neg trivial,q1]
  simp only [Qs]
  rw [guardD_of (by omega),guardD_of (by omega),guardD_of (by omega),q2]
  simp only [Qs]
  have hl1:IntKind.i64.wrap (c.L+1)=((l+1:Nat):Int):=by rw [i64w,wrap_id (by omega) (by omega),tp.ex.hL];rfl
  obtain ⟨M,eM⟩:∃ M:Nat,c.H=(M:Int):=⟨c.H.toNat,by omega⟩
  have hMs:M=2 ^ e*szN l u 0:=by rw [eM] at hsH;exact_mod_cast hsH
  rw [hl1,Int.toNat_natCast,eM,Int.toNat_natCast]
  rw [show [Cell.int IntKind.i64 0]=eI 0 from rfl,reps_tab (e:=eI) np 0,show [Cell.bool false]=eB false from rfl,reps_tab (e:=eB) np false,show [Cell.int IntKind.u8 0]=eU8 0 from rfl,reps_tab (e:=eU8) M 0]
  simp only [GH.next_alloc]
  have hw:=h1.wf.2
  have hn:=h1.nx
  have k1:=h1.alloc (.map kA [])
  have k2:=k1.alloc (.row (cells eI (tab np fun _=>0)) false)
  have k3:=k2.alloc (.row (cells eB (tab np fun _=>false)) false)
  have k4:=k3.alloc (.row (cells eU8 (tab M fun _=>0)) false)
  obtain ⟨row,erow⟩:∃ row:List Cell,row=[Cell.int .i64 c.G,.int .i64 c.N,.int .i64 c.M,.int .i64 c.L,.int .i64 c.Pg,.int .i64 c.P,.int .i64 (M:Int),.int .i64 c.Sd,.int .i64 0,.sl 2 0 0 0,.sl 2 0 0 0,.map G1.next,.int .i64 0,.int .i64 0,.int .i64 0,.sl 1 (G1.next+1) 0 np,.sl 1 (G1.next+1+1) 0 np,.sl 1 (G1.next+1+1+1) 0 M]:=⟨_,rfl⟩
  rw [← erow]
  have k5:=k4.alloc (.row row false)
  simp only [GH.next_alloc] at k2 k3 k4 k5
  generalize hG5:((((G1.alloc (.map kA [])).alloc (.row (cells eI (tab np fun _=>0)) false)).alloc (.row (cells eB (tab np fun _=>false)) false)).alloc (.row (cells eU8 (tab M fun _=>0)) false)).alloc (.row row false)=G5 at k5 ⊢
  have hnx5:G5.next=G1.next+5:=by rw [← hG5];rfl
  generalize G1.next=n at *
  obtain ⟨X,eX⟩:∃ X:List Nat,X=[n+1+1+1+1,n,n+1,n+1+1+1]:=⟨_,rfl⟩
  have hX:Ids G5 X:=fun x hx=>by rw [eX] at hx;simp only [List.mem_cons,List.not_mem_nil,or_false] at hx;omega
  obtain ⟨tid,G6,p1,p2,p3⟩:=F62.sp k5.wf so (by omega) hpos hX (Gg:=2 ^ e) rfl (by rw [← hMs];omega)
  have k6:=k5.trans0 p2
  rw [tp.ex.hG,p1]
  simp only [Qs,List.length_cons,List.length_nil,if_true,Nat.zero_add,Nat.reduceAdd]
  rw [guardK_of (nb0 (by omega))]
  obtain ⟨s,es⟩:∃ s:HS,s = ⟨c,tid,0,n,n+1,n+1+1,n+1+1+1,l+1,szN l u,fun q=>decide (szN l u 0≤q),[],[],0,0,0,tab np fun _=>0,tab np fun _=>false,tab M fun _=>0⟩:=⟨_,rfl⟩
  have g6:G6.get (n+1+1+1+1)=some (.row row false):=k6.get (List.mem_cons_self ..) (by omega)
  have sts:G6.sts (n+1+1+1+1) 8 [.int .i64 ((2 ^ e:Nat):Int),.sl 2 tid 0 (l+1),.sl 2 0 0 0]=some (G6.set (n+1+1+1+1) (some (.row s.cells false))):=by
    unfold GH.sts
    rw [own_row g6,Option.bind_some,if_pos (by rw [erow];simp)]
    congr 4
    rw [erow,es]
    unfold HS.cells cfC splice
    simp only [tab_len,List.length_nil,eM,tp.ex.hG]
    rfl
  have eXs:s.X (n+1+1+1+1)=X:=by rw [es,eX];rfl
  have fr:FrX X G6 (G6.set (n+1+1+1+1) (some (.row s.cells false))):=FrX.set (by rw [eX];simp)
  refine ⟨n+1+1+1+1,s,e,l,u,G6.set (n+1+1+1+1) (some (.row s.cells false)),?_,k6.nil.set0 (by omega) g6,⟨⟨wf_set' k6.wf g6,by rw [GH.get_set,if_pos rfl],?_,?_,?_,by omega,?_,?_,?_,?_,?_⟩,⟨?_,?_,?_,?_,?_,?_,?_,?_⟩,⟨?_,?_,?_,?_,?_,?_⟩,⟨?_,?_,?_,?_,?_⟩,?_,newM_ok ok⟩,?_⟩
  · rw [sts];rfl
  · rw [GH.get_set,es,if_neg (show ¬ n=n+1+1+1+1 by omega)];exact k6.get (id:=n) (by simp) (by omega)
  · rw [GH.get_set,es,if_neg (show ¬ n+1=n+1+1+1+1 by omega)];exact k6.get (id:=n+1) (by simp) (by omega)
  · rw [GH.get_set,es,if_neg (show ¬ n+1+1+1=n+1+1+1+1 by omega)];exact k6.get (id:=n+1+1+1) (by simp) (by omega)
  · rw [es];show n≠0;omega
  · rw [es];show _≠n∧_≠n+1∧_≠n+1+1+1∧n≠n+1∧n≠n+1+1+1∧n+1≠n+1+1+1;omega
  · rw [eXs,es]
    refine Sx.fr (G:=G6) ⟨k6.sl (e:=eB) (by simp),.inr ?_⟩ (by rw [es] at fr;exact fr) k6.wf
    rw [eX];simp only [List.mem_cons,List.not_mem_nil,or_false];omega
  · rw [es];show n+1+1≠0;omega
  · rw [eXs]
    have:=p3.fr fr p2.wf
    rw [es] at this ⊢
    exact this
  · rw [es];exact tp
  · rw [es]
  · rw [es];exact so
  · rw [es];show 2 ^ e*szN l u 0=(tab M fun _=>(0:Int)).length;rw [tab_len,hMs]
  · rw [es];show (((tab M fun _=>(0:Int)).length:Nat):Int)=c.H;rw [tab_len,eM]
  · rw [es];show (((tab np fun _=>false).length:Nat):Int)*c.Pg=c.H;rw [tab_len,hnp]
  · rw [es];show (tab np fun _=>(0:Int)).length=(tab np fun _=>false).length;rw [tab_len,tab_len]
  · rw [es];show n+1+1+1≠0;omega
  · rw [es];rfl
  · rw [es];exact ⟨[],rfl,.refl _⟩
  · rw [es];show (tab np fun _=>(0:Int))=tab (tab np fun _=>(0:Int)).length _;rw [tab_len];rfl
  · intro q;rw [es];show decide _=(decide _||false);rw [Bool.or_false]
  · exact List.Pairwise.nil
  · intro b hb;cases hb
  · rw [es];rfl
  · rw [es];rfl
  · rw [es];rfl
  · rw [es];show (tab (c.H / c.Pg).toNat fun _=>false)=tab np fun _=>false;rw [eHP,Int.toNat_natCast]
  · rw [es];show (tab c.H.toNat fun _=>(0:Int))=tab M fun _=>0;rw [eM,Int.toNat_natCast]
  · rw [es];rfl
  · intro x hx
    rw [eXs,eX] at hx
    simp only [List.mem_cons,List.not_mem_nil,or_false] at hx
    omega
end Go.Proofs.D.S
/- What is read out of numbers. -/
set_option linter.unusedVariables false
set_option linter.unusedSimpArgs false
namespace Go.Proofs.D.S
open Go Go.RowKit
variable {G G0:GH} {L:List (Nat×Obj)}
abbrev pk (pid lid lo n:Nat) (i:Int):Nat×Obj:=(pid,.row [.sl 1 lid lo n,.int .i64 i] false)
structure PkOk (G0:GH) (L:List (Nat×Obj)) (lid lo n:Nat) (xs:List Int):Prop where
  rd:Rd G0 L eU8 lid lo xs
  by_:Bytes xs
  len:n=xs.length
  small:n≤1000000000
theorem PkOk.cons {lid lo n:Nat} {xs:List Int} (h:PkOk G0 L lid lo n xs) (x:Nat×Obj):PkOk G0 (x::L) lid lo n xs:=⟨h.rd.cons,h.by_,h.len,h.small⟩
theorem PkOk.sub {lid lo n:Nat} {xs:List Int} {L':List (Nat×Obj)} (h:PkOk G0 L lid lo n xs) (s:L.Sublist L'):PkOk G0 L' lid lo n xs:=⟨h.rd.sub s,h.by_,h.len,h.small⟩
structure Fr (pid:Nat) (G G':GH):Prop where
  nx:G.next≤G'.next
  old:∀ j,j≠pid→j<G.next→G'.get j=G.get j
theorem Fr.refl {pid:Nat}:Fr pid G G:=⟨Nat.le_refl _,fun _ _ _=>rfl⟩
theorem Fr.trans {pid:Nat} {G1 G2:GH} (a:Fr pid G G1) (b:Fr pid G1 G2):Fr pid G G2:=⟨Nat.le_trans a.nx b.nx,fun j h1 h2=>(b.old j h1 (Nat.lt_of_lt_of_le h2 a.nx)).trans (a.old j h1 h2)⟩
theorem Fr.hp {pid:Nat} {G1:GH} {R:List (Nat×Obj)} (h:Hp G G1 R):Fr pid G G1:=⟨h.nx,fun j _ hj=>h.old j hj⟩
theorem Fr.sts {pid off:Nat} {new:List Cell} {G1:GH} (h:G.sts pid off new=some G1):Fr pid G G1:=by
  unfold GH.sts at h
  obtain ⟨cs,_,h⟩:=Option.bind_eq_some_iff.1 h
  split at h
  · cases h
    exact ⟨by rw [GH.next_set];omega,fun j hj _=>by rw [GH.get_set,if_neg hj]⟩
  · cases h
theorem Fr.sl {α:Type} {e:α→List Cell} {pid id off:Nat} {xs:List α} {G1:GH} (f:Fr pid G G1) (w:G.wf) (s:Sl G e id off xs) (h:xs=[]∨id≠pid):Sl G1 e id off xs:=by
  rcases h with h | h
  · exact .inl h
  rcases s with s | ⟨cs,a,b,c⟩
  · exact .inl s
  · exact .inr ⟨cs,row_cong a (f.old id h (row_lt w a)),b,c⟩
theorem F21.sp (h:Hp G0 G L) (lid lo n:Nat):∃ pid G',CW F21.id [.c (.sl 1 lid lo n)] G=some ([.c (.ptr pid 0)],G')∧Hp G0 G' (pk pid lid lo n 0::L):=by
  refine ⟨_,_,?_,h.alloc _⟩
  rw [F21.cw]
  rfl
theorem F8.sp {pid lid lo n:Nat} {i:Int} {xs:List Int} (h:Hp G0 G (pk pid lid lo n i::L)) (p:PkOk G0 L lid lo n xs) (h0:0≤i) (h1:i≤n) (m:Int) :
    ∃ v j G',CW F8.id [.c (.ptr pid 0),.c (.int .i64 m)] G=some ([.c (.int .i64 v)],G')∧Hp G0 G' (pk pid lid lo n j::L)∧0≤v∧v≤255∧(1≤m→v<m)∧i≤j∧j≤n∧(m<1→v=0)∧Fr pid G G':=by
  have hp:=h.ne
  have hl:=p.len
  have hs:=p.small
  have ld:=fun off=>h.ld (off:=off) hp
  rw [F8.cw]
  unfold F8.f
  simp only [guardN hp,ld,Qs,Nat.zero_add]
  by_cases a1:i≥(n:Int)
  · rw [condD_pos a1,F8.J6_eq]
    exact ⟨0,i,G,rfl,h,by omega,by omega,by omega,by omega,by omega,fun _=>rfl,.refl⟩
  · rw [condD_neg a1,F8.J6_eq]
    by_cases a2:m<1
    · rw [condD_pos a2]
      exact ⟨0,i,G,rfl,h,by omega,by omega,by omega,by omega,by omega,fun _=>rfl,.refl⟩
    · rw [condD_neg a2]
      obtain ⟨G1,h2,e⟩:=h.sts (off:=1) (new:=[.int .i64 (i+1)]) hp (by simp)
      have h2:Hp G0 G1 (pk pid lid lo n (i+1)::L):=h2
      have ld2:=fun off=>h2.ld (off:=off) hp
      have rd:=p.rd _ h2.tl
      simp only [ld,Qs,Nat.zero_add,guardN hp,i64w,wrap_id (a:=i+1) (by omega) (by omega),e,ld2,show i+1-1=i by omega,wrap_id (a:=i) (by omega) (by omega)]
      rw [guardD_of (by omega)]
      have hit:i.toNat<xs.length:=by omega
      have r:=rd.ld i.toNat 0 hit (by omega)
      rw [Nat.add_zero] at r
      rw [r]
      have hb:=p.by_ _ (List.getElem_mem hit)
      simp only [Qs,i64w,wrap_id (a:=xs[i.toNat]) (by omega) (by omega),binD_rem (show m≠0 by omega),Int.tmod_eq_emod_of_nonneg hb.1]
      have h3:=Int.emod_nonneg xs[i.toNat] (b:=m) (by omega)
      have h4:=Int.emod_lt_of_pos xs[i.toNat] (b:=m) (by omega)
      have h5:xs[i.toNat] % m≤xs[i.toNat]:=by
        have h6:=Int.mul_ediv_add_emod xs[i.toNat] m
        have h7:=Int.mul_nonneg (show 0≤m by omega) (Int.ediv_nonneg (a:=xs[i.toNat]) (b:=m) (by omega) (by omega))
        omega
      exact ⟨_,_,_,rfl,h2,h3,by omega,by omega,by omega,by omega,by omega,.sts e⟩
theorem F9.sp {pid lid lo n:Nat} {i:Int} {xs:List Int} (h:Hp G0 G (pk pid lid lo n i::L)) (p:PkOk G0 L lid lo n xs) (h0:0≤i) (h1:i≤n) (b:Bool) :
    ∃ (r:Rw) (j:Int) (G':GH),CW F9.id [.c (.ptr pid 0),.c (.bool b)] G=some ([.agg (rwC r)],G')∧Hp G0 G' (pk pid lid lo n j::L)∧RawOk b r.g r.la r.li r.pa r.bu r.se∧i≤j∧j≤n:=by
  obtain ⟨v1,j1,G1,e1,k1,a1,b1,c1,d1,f1,_⟩:=F8.sp h p h0 h1 9
  obtain ⟨v2,j2,G2,e2,k2,a2,b2,c2,d2,f2,_⟩:=F8.sp k1 p (by omega) f1 12
  obtain ⟨v3,j3,G3,e3,k3,a3,b3,c3,d3,f3,_⟩:=F8.sp k2 p (by omega) f2 150
  obtain ⟨v4,j4,G4,e4,k4,a4,b4,c4,d4,f4,_⟩:=F8.sp k3 p (by omega) f3 30
  obtain ⟨v5,j5,G5,e5,k5,a5,b5,c5,d5,f5,_⟩:=F8.sp k4 p (by omega) f4 200
  obtain ⟨v6,j6,G6,e6,k6,a6,b6,c6,d6,f6,_⟩:=F8.sp k5 p (by omega) f5 20
  have c1:=c1 (by omega)
  have c2:=c2 (by omega)
  have c3:=c3 (by omega)
  have c4:=c4 (by omega)
  have c5:=c5 (by omega)
  have c6:=c6 (by omega)
  have p1:1+v1≤(1+v1)*(1+v2):=by
    have:=Int.mul_nonneg (show 0≤1+v1 by omega) a2
    rw [Int.mul_add];omega
  have p2:(1+v1)*(1+v2)≤9*12:=Int.mul_le_mul (by omega) (by omega) (by omega) (by omega)
  rw [F9.cw]
  unfold F9.f
  simp only [e1,e2,e3,e4,e5,e6,Qs,i64w,wrap_id (a:=1+v1) (by omega) (by omega),wrap_id (a:=1+v2) (by omega) (by omega),wrap_id (a:=1+v3) (by omega) (by omega),wrap_id (a:=1+v4) (by omega) (by omega),wrap_id (a:=1+v6) (by omega) (by omega),wrap_id (a:=(1+v1)*(1+v2)) (by omega) (by omega),F9.J10_eq]
  cases b with
  | true=>exact ⟨⟨1+v1,(1+v1)*(1+v2),1+v3,1+v4,5000,v5⟩,_,_,rfl,k6,⟨by dsimp only;omega,⟨p1,by dsimp only;omega⟩,by dsimp only;omega,by dsimp only;omega,fun _=>rfl,by simp,by dsimp only;omega⟩,by omega,f6⟩
  | false=>exact ⟨⟨1+v1,(1+v1)*(1+v2),1+v3,1+v4,1+v6,v5⟩,_,_,rfl,k6,⟨by dsimp only;omega,⟨p1,by dsimp only;omega⟩,by dsimp only;omega,by dsimp only;omega,by simp,fun _=>by dsimp only;omega,by dsimp only;omega⟩,by omega,f6⟩
end Go.Proofs.D.S
/- Rows of blocks: the reference's Over,Lowest,put,Find. -/
set_option linter.unusedVariables false
set_option linter.unusedSimpArgs false
namespace Go.Proofs.D.S
open Go Go.RowKit
variable {G G0:GH} {L:List (Nat×Obj)}
end Go.Proofs.D.S
/- The reference's pages: Pages,Count,Byte,there,Met,Fill,Zero,Trim. -/
set_option linter.unusedVariables false
set_option linter.unusedSimpArgs false
namespace Go.Proofs.D.S
open Go Go.RowKit
variable {G G0:GH} {L:List (Nat×Obj)}
end Go.Proofs.D.S
/- The reference's Commit. -/
set_option linter.unusedVariables false
set_option linter.unusedSimpArgs false
namespace Go.Proofs.D.S
open Go Go.RowKit
variable {G G0:GH} {L:List (Nat×Obj)}
end Go.Proofs.D.S
/- The reference's place. -/
set_option linter.unusedVariables false
set_option linter.unusedSimpArgs false
namespace Go.Proofs.D.S
open Go Go.RowKit
variable {G G0:GH} {L:List (Nat×Obj)}
structure Md (G:GH) (bi oi mi:Nat) (m:Mod):Prop where
  bl:Sl G eBlk bi 0 m.bl
  on:Sl G eB oi 0 m.on
  mem:Sl G eU8 mi 0 m.mem
theorem Md.keep {G G':GH} {R:List (Nat×Obj)} {bi oi mi:Nat} {m:Mod} (s:Md G bi oi mi m) (h:Hp G G' R):Md G' bi oi mi m:=⟨s.bl.keep h,s.on.keep h,s.mem.keep h⟩
end Go.Proofs.D.S
/- What is to be done,read out of numbers. -/
set_option linter.unusedVariables false
set_option linter.unusedSimpArgs false
namespace Go.Proofs.D.S
open Go Go.RowKit
variable {G G0:GH} {L:List (Nat×Obj)}
theorem F7.sp {pid lid lo n:Nat} {i:Int} (h:Hp G0 G (pk pid lid lo n i::L)):CW F7.id [.c (.ptr pid 0)] G=some ([.c (.bool (decide (i≥(n:Int))))],G):=by
  have hp:=h.ne
  have ld:=fun off=>h.ld (off:=off) hp
  rw [F7.cw]
  unfold F7.f
  simp only [guardN hp,ld,Qs,Nat.zero_add]
end Go.Proofs.D.S
/- Keys and values of maps,as cells. -/
set_option linter.unusedVariables false
namespace Go.Proofs.D.S
open Go
abbrev eIc (n:Int):V1:=.c (.int .i64 n)
theorem eIc_inj (a b:Int) (h:eIc a=eIc b):a=b:=by
  have h:V1.c (.int .i64 a)=V1.c (.int .i64 b):=h
  injection h with h;injection h
theorem getD_eIc (o:Option Int):(o.map eIc).getD (.c (.int .i64 0))=eIc (o.getD 0):=by cases o <;> rfl
theorem isSome_map' {α β:Type} (f:α→β) (o:Option α):(o.map f).isSome=o.isSome:=by cases o <;> rfl
end Go.Proofs.D.S
/- The script runs: what the model holds behind each of its steps. -/
set_option linter.unusedVariables false
namespace Go.Proofs.D.S
open Go Go.RowKit
variable {g l u:Nat}
theorem commitP_fits {on met:List Bool} {f b mx:Int} (h:(met.length:Int)≤mx):∃ on' fr,commitP on met f b mx=some (on',fr):=by
  unfold commitP
  have h1:=cnt_le (needP met f b)
  have h2:(needP met f b).length=met.length:=by unfold needP;rw [tab_len]
  rw [if_neg (by omega)]
  exact ⟨_,_,rfl⟩
theorem placeM_fits {m:Mod} {l:List Blk} {n asked:Int} {j:Nat} (hP:(m.on.length:Int)≤m.c.P) (h:lowJ m.c.H l n=some j):∃ on' fr,placeM m l n asked=(setM m l ((j:Int)*n) n asked on' fr,(j:Int)*n,0):=by
  have e:lowR m.c.H l n=((j:Int)*n,true):=by unfold lowR;rw [h]
  unfold placeM
  rw [e,if_pos rfl]
  obtain ⟨on',fr,hc⟩:=commitP_fits (on:=m.on) (met:=metP m.c.Pg m.on.length l) (f:=(pagesP m.c.Pg ((j:Int)*n) n).1) (b:=(pagesP m.c.Pg ((j:Int)*n) n).2) (mx:=m.c.P) (by unfold metP;rw [tab_len];exact hP)
  refine ⟨on',fr,?_⟩
  dsimp only
  rw [hc]
  rfl
end Go.Proofs.D.S
/- A modest client: what it holds is what is live,and it is never refused. -/
set_option linter.unusedVariables false
namespace Go.Proofs.D.S
open Go Go.RowKit
variable {g l u:Nat}
theorem charge_fair {c:Cf} (ex:c.Ex g l) {s:Int} (h1:1≤s) (h2:s≤c.N) (h3:c.G≤2*s) :
    ∃ k:Nat,k≤l∧chargeS c.G c.N s 1=(((2 ^ (g+k):Nat):Int),0)∧((2 ^ (g+k):Nat):Int)≤2*s∧s≤((2 ^ (g+k):Nat):Int):=by
  have e:(chargeS c.G c.N s 1).2=0:=by
    unfold chargeS
    rw [show (logS 1).2=true from by decide,if_neg (fun h=>h.elim (fun h=>by cases h) (fun h=>by omega)),if_neg (by omega)]
  have e1:(chargeS c.G c.N s 1).1=((2 ^ clog (max (max s 1) c.G).toNat:Nat):Int):=by
    unfold chargeS
    rw [show (logS 1).2=true from by decide,if_neg (fun h=>h.elim (fun h=>by cases h) (fun h=>by omega)),if_neg (by omega)]
  have e':=e
  rw [ex.hG,ex.hN] at e'
  obtain ⟨q,q1,q2,q3,q4,_,_⟩:=chargeS_ok e' (by omega)
  rw [← ex.hG,← ex.hN] at q3
  refine ⟨q-g,by omega,?_,?_,?_⟩
  · rw [show g+(q-g)=q by omega,← q3]
    exact Prod.ext rfl e
  · rw [show g+(q-g)=q by omega,← q3,e1]
    generalize hn:(max (max s 1) c.G).toNat=n
    have z:(2 ^ clog n:Nat)=1∨2 ^ clog n<2*n:=by
      rcases Nat.eq_zero_or_pos (clog n) with h | h
      · left;rw [h]
      · right
        have:=lt_clog (n:=n) (e:=clog n-1) (by omega)
        have e3:2 ^ clog n=2 ^ (clog n-1)*2:=by rw [← Nat.pow_succ];congr 1;omega
        omega
    by_cases hs:c.G≤s
    · omega
    · have hG:=ex.hG
      have:n=2 ^ g:=by omega
      rw [this,clog_pow];omega
  · rw [show g+(q-g)=q by omega];exact q4
theorem place_all {m:Mod} (tp:m.c.Tp g l u) (ok:m.Ok) (hP:(m.on.length:Int)≤m.c.P) {bl:List Blk} (hb:∀ b∈bl,Bin g l u b) {k:Nat} (hk:k≤l) (hs:chSum bl+((2 ^ (g+k):Nat):Int)≤m.c.M) (asked:Int) :
    ∃ (j:Nat) (on':List Bool) (fr:List Int),j<tP l u k*(2+k)∧freeB bl ((j:Int)*((2 ^ (g+k):Nat):Int)) ((2 ^ (g+k):Nat):Int)=true ∧
      placeM m bl ((2 ^ (g+k):Nat):Int) asked=(setM m bl ((j:Int)*((2 ^ (g+k):Nat):Int)) ((2 ^ (g+k):Nat):Int) asked on' fr,(j:Int)*((2 ^ (g+k):Nat):Int),0):=by
  have z:=Nat.two_pow_pos (g+k)
  have f:=ok.c.facts
  obtain ⟨j,hj1,hj2,_⟩:=room tp hk hb hs
  obtain ⟨_,h2,_⟩:=(lowJ_some (by omega) (by omega)).1 hj1
  obtain ⟨on',fr,e⟩:=placeM_fits (m:=m) (l:=bl) (asked:=asked) hP hj1
  exact ⟨j,on',fr,hj2,h2,e⟩
structure Fa where
  held:List (Int×Int)
  all:Int
def Fa.asks (c:Cf) (f:Fa) (n s:Int):Option Fa :=
  if 1≤s∧s≤c.N∧c.G≤2*s∧s≤c.M / 2-f.all then some ⟨aPut f.held n s,f.all+s⟩ else none
def Fa.goes (f:Fa) (n:Int):Option Fa:=(aGet f.held n).map fun s=>⟨aDel f.held n,f.all-s⟩
def Fa.does (c:Cf) (f:Fa) (n:Int) (o:OpV):Option Fa :=
  if o.k=1 then f.asks c n o.s
  else if o.k=2 then (if (productS c.N o.n o.s).2=0 then f.asks c n (productS c.N o.n o.s).1 else none)
  else if o.k=4 then (f.goes o.p).bind fun f=>f.asks c n o.s
  else if o.k=5 then f.goes o.p
  else if o.k=6 then (if (aGet f.held o.p).isSome then some f else none)
  else if o.k=7∨o.k=8 then (match aGet f.held o.p with | some s=>if 0≤o.n∧o.n<s then some f else none | none=>none)
  else if o.k=9∨o.k=10 then some f
  else none
def Fa.may (c:Cf):Fa→Nat→List OpV→Bool
  | _,_,[]=>true
  | f,i,o::l=>match f.does c (i:Int) o with
    | some f=>f.may c (i+1) l
    | none=>false
def fa0:Fa:=⟨[],0⟩
structure FInv (c:Cf) (f:Fa) (i:Int):Prop where
  keys:∀ x∈f.held,0≤x.1∧x.1<i∧1≤x.2∧x.2≤c.N∧c.G≤2*x.2
  nd:NoDup f.held
  sum:f.all=(f.held.map Prod.snd).sum
  le:f.all≤c.M / 2
theorem sum_nonneg:∀ {l:List Int},(∀ x∈l,0≤x)→0≤l.sum
  | [],_=>by simp
  | x::l,h=>by
    have h1:=h x (by simp)
    have h2:=sum_nonneg (l:=l) fun y hy=>h y (by simp [hy])
    rw [List.sum_cons];omega
theorem FInv.pos {c:Cf} {f:Fa} {i:Int} (h:FInv c f i):0≤f.all:=by
  rw [h.sum]
  refine sum_nonneg fun x hx=>?_
  obtain ⟨y,hy,rfl⟩:=List.mem_map.1 hx
  have:=h.keys y hy;omega
theorem FInv.zero {c:Cf} (ok:c.Ok):FInv c fa0 0:=⟨fun x hx=>(by cases hx),List.Pairwise.nil,rfl,by have:=ok.facts;show (0:Int)≤_;omega⟩
theorem FInv.mono {c:Cf} {f:Fa} {i j:Int} (h:FInv c f i) (hij:i≤j):FInv c f j:=⟨fun x hx=>by have:=h.keys x hx;omega,h.nd,h.sum,h.le⟩
theorem FInv.free {c:Cf} {f:Fa} {i:Int} (h:FInv c f i):aGet f.held i=none:=aGet_none.2 fun x hx=>by have:=h.keys x hx;omega
theorem FInv.asks {c:Cf} {f f':Fa} {i s:Int} (h:FInv c f i) (hi:0≤i) (e:f.asks c i s=some f'):FInv c f' (i+1)∧f'.held=f.held++[(i,s)]∧f'.all=f.all+s∧1≤s∧s≤c.N∧c.G≤2*s∧f.all+s≤c.M / 2:=by
  unfold Fa.asks at e
  split at e
  · rename_i hs
    cases e
    have e1:=aPut_new (x:=s) h.free
    refine ⟨⟨fun x hx=>?_,h.nd.put,?_,by dsimp only;omega⟩,e1,rfl,hs.1,hs.2.1,hs.2.2.1,by omega⟩
    · dsimp only at hx
      rw [e1] at hx
      rcases List.mem_append.1 hx with hx | hx
      · have:=h.keys x hx;omega
      · simp at hx;subst hx;dsimp only;omega
    · dsimp only
      rw [e1,List.map_append,List.sum_append,h.sum];simp
  · cases e
theorem FInv.goes {c:Cf} {f f':Fa} {i p:Int} (h:FInv c f i) (e:f.goes p=some f'):FInv c f' i∧∃ s,aGet f.held p=some s∧f'.held=aDel f.held p∧f'.all=f.all-s∧f.held.Perm ((p,s)::f'.held):=by
  unfold Fa.goes at e
  obtain ⟨s,hs,rfl⟩:=Option.map_eq_some_iff.1 e
  have q:=aDel_perm hs
  have hsum:f.all=s+((aDel f.held p).map Prod.snd).sum:=by
    rw [h.sum,sum_perm (q.map Prod.snd)];rfl
  have hk:=h.keys _ (aGet_mem hs)
  dsimp only at hk
  have hle:=h.le
  refine ⟨⟨fun x hx=>h.keys x (aDel_ne h.nd hx).2,h.nd.del _,?_,?_⟩,s,hs,rfl,rfl,q⟩
  · dsimp only;omega
  · dsimp only;omega
structure FRel (g l u:Nat) (C:Cf) (m:Mod) (f:Fa) (i:Int) (ats:Int→Int):Prop where
  ok:m.Ok
  c:m.c=C
  bin:∀ b∈m.bl,Bin g l u b
  srt:Srt m.bl
  inv:FInv C f i
  perm:m.bl.Perm (f.held.map fun x=>⟨ats x.1,(chargeS C.G C.N x.2 1).1,x.2⟩)
theorem FRel.pages {C:Cf} {m:Mod} {f:Fa} {i:Int} {ats:Int→Int} (r:FRel g l u C m f i ats) (hP:C.H≤C.P):(m.on.length:Int)≤m.c.P:=by
  have fs:=r.ok.c.facts
  have h1:=r.ok.on
  have h2:(m.on.length:Int)*1≤(m.on.length:Int)*m.c.Pg:=Int.mul_le_mul_of_nonneg_left (by omega) (by omega)
  rw [r.c] at h1 h2 ⊢
  omega
theorem sum_twice {C:Cf} (tp:C.Tp g l u):∀ {h:List (Int×Int)} (ats:Int→Int),(∀ x∈h,1≤x.2∧x.2≤C.N∧C.G≤2*x.2)→chSum (h.map fun x=>⟨ats x.1,(chargeS C.G C.N x.2 1).1,x.2⟩)≤2*(h.map Prod.snd).sum
  | [],_,_=>by simp [chSum]
  | x::h,ats,hk=>by
    have ih:=sum_twice tp (h:=h) ats fun y hy=>hk y (by simp [hy])
    obtain ⟨h1,h2,h3⟩:=hk x (by simp)
    obtain ⟨k,_,e,e2,_⟩:=charge_fair tp.ex h1 h2 h3
    rw [List.map_cons,chSum_cons,List.map_cons,List.sum_cons]
    dsimp only
    rw [e];dsimp only;omega
theorem FRel.live {C:Cf} (tp:C.Tp g l u) {m:Mod} {f:Fa} {i:Int} {ats:Int→Int} (r:FRel g l u C m f i ats):m.live≤2*f.all:=by
  rw [r.ok.live,chSum_perm r.perm,r.inv.sum]
  exact sum_twice tp ats fun x hx=>by have:=r.inv.keys x hx;omega
def upd (ats:Int→Int) (i v:Int):Int→Int:=fun j=>if j=i then v else ats j
theorem upd_map {ats:Int→Int} {C:Cf} {i v:Int} {h:List (Int×Int)} (hk:∀ x∈h,x.1<i):(h.map fun x=>(⟨upd ats i v x.1,(chargeS C.G C.N x.2 1).1,x.2⟩:Blk))=h.map fun x=>⟨ats x.1,(chargeS C.G C.N x.2 1).1,x.2⟩:=by
  refine List.map_congr_left fun x hx=>?_
  unfold upd
  rw [if_neg (by have:=hk x hx;omega)]
theorem FRel.find {C:Cf} {m:Mod} {f:Fa} {i:Int} {ats:Int→Int} (r:FRel g l u C m f i ats) {p s:Int} (h:aGet f.held p=some s) :
    ∃ A,∃ hA:A<m.bl.length,findB m.bl (ats p)=some A∧m.bl[A] = ⟨ats p,(chargeS C.G C.N s 1).1,s⟩:=by
  have hm:(⟨ats p,(chargeS C.G C.N s 1).1,s⟩:Blk)∈m.bl:=r.perm.mem_iff.2 (List.mem_map.2 ⟨(p,s),aGet_mem h,rfl⟩)
  exact findB_mem r.srt (fun b hb=>(r.ok.bl b hb).2.1) hm
def opAt (ats:Int→Int) (o:OpV):OpV:=if 4≤o.k∧o.k≤8 then { o with p:=ats o.p } else o
theorem FRel.next {C:Cf} {m:Mod} {f:Fa} {i:Int} {ats:Int→Int} (r:FRel g l u C m f i ats) (v:Int):FRel g l u C m f (i+1) (upd ats i v) :=
  ⟨r.ok,r.c,r.bin,r.srt,r.inv.mono (by omega),by rw [upd_map fun x hx=>(r.inv.keys x hx).2.1];exact r.perm⟩
theorem doM_give {m:Mod} {o:OpV} (h:o.k=1∨o.k=2∨o.k=3):doM m o=giveM m o:=by unfold doM;rw [if_pos h]
theorem FRel.gives {C:Cf} (tp:C.Tp g l u) (hP:C.H≤C.P) {m:Mod} {f f':Fa} {i s:Int} {ats:Int→Int} (hi:0≤i) (r:FRel g l u C m f i ats) {o:OpV} (ho:o.k=1∧s=o.s∨o.k=2∧productS C.N o.n o.s=(s,0)∧wrap64 (o.n*o.s)=s) (e:f.asks C i s=some f') :
    (doM m o).2.err=0∧FRel g l u C (doM m o).1 f' (i+1) (upd ats i (doM m o).2.at_):=by
  obtain ⟨inv,e1,e2,s1,s2,s3,s4⟩:=r.inv.asks hi e
  obtain ⟨k,hk,hc,hc2,hc3⟩:=charge_fair tp.ex s1 s2 s3
  have hl:=r.live tp
  have hlive:=r.ok.live
  have tpm:m.c.Tp g l u:=by rw [r.c];exact tp
  have hM2:=tp.full (k:=0) (by omega)
  have z:=Nat.two_pow_pos (g+k)
  have hnew:newS m.c.G m.c.N m.c.M m.live s 1=(((2 ^ (g+k):Nat):Int),0):=by
    unfold newS
    rw [r.c,hc,if_pos rfl,if_neg (by dsimp only;omega)]
  obtain ⟨j,on',fr,hj,hfree,hp⟩:=place_all tpm r.ok (r.pages hP) r.bin hk (by rw [← hlive,r.c];omega) s
  have hdo:doM m o=giveM m o:=doM_give (ho.elim (fun h=>.inl h.1) (fun h=>.inr (.inl h.1)))
  have hg:(giveM m o).2 = ⟨0,(j:Int)*((2 ^ (g+k):Nat):Int),0,0,0,0,0,0⟩∧(giveM m o).1.bl=putB m.bl ⟨(j:Int)*((2 ^ (g+k):Nat):Int),((2 ^ (g+k):Nat):Int),s⟩:=by
    unfold giveM
    rcases ho with ⟨h,rfl⟩ | ⟨h,h2,h3⟩
    · simp only [h,show ¬ ((1:Int)=2) by decide,show ¬ ((1:Int)=3) by decide,if_false,hnew,if_true,hp]
      exact ⟨trivial,rfl⟩
    · have hmany:manyS m.c.G m.c.N m.c.M m.live o.n o.s=(((2 ^ (g+k):Nat):Int),0):=by
        unfold manyS
        have h2':productS m.c.N o.n o.s=(s,0):=by rw [r.c];exact h2
        rw [h2',if_pos rfl];exact hnew
      simp only [h,if_true,hmany,h3,hp]
      exact ⟨trivial,rfl⟩
  obtain ⟨okd,hcd⟩:=doM_ok r.ok o
  obtain ⟨_,bind,_⟩:=doM_good tpm r.ok r.bin o
  rw [hdo] at okd hcd bind ⊢
  rw [hg.1]
  have pb:=putB_perm ⟨(j:Int)*((2 ^ (g+k):Nat):Int),((2 ^ (g+k):Nat):Int),s⟩ m.bl
  refine ⟨rfl,okd,hcd.trans r.c,bind,?_,inv,?_⟩
  · rw [hg.2];exact r.srt.put (by omega) (fun b hb=>(r.ok.bl b hb).2.1) hfree
  · rw [hg.2,e1,List.map_append,upd_map fun x hx=>(r.inv.keys x hx).2.1]
    refine (pb.trans (r.perm.cons _)).trans ?_
    have e5:[(i,s)].map (fun x=>(⟨upd ats i ((j:Int)*((2 ^ (g+k):Nat):Int)) x.1,(chargeS C.G C.N x.2 1).1,x.2⟩:Blk))=[⟨(j:Int)*((2 ^ (g+k):Nat):Int),((2 ^ (g+k):Nat):Int),s⟩]:=by
      simp only [List.map_cons,List.map_nil,upd,if_true,hc]
    dsimp only at e5 ⊢
    rw [e5]
    exact List.perm_append_comm (l₁:=[_])
theorem FRel.rest {C:Cf} {m:Mod} {f f':Fa} {i p s:Int} {ats:Int→Int} (r:FRel g l u C m f i ats) {A:Nat} (hA:A<m.bl.length) (hb:m.bl[A] = ⟨ats p,(chargeS C.G C.N s 1).1,s⟩) (hp:f.held.Perm ((p,s)::f'.held)) :
    (m.bl.take A++m.bl.drop (A+1)).Perm (f'.held.map fun x=>⟨ats x.1,(chargeS C.G C.N x.2 1).1,x.2⟩):=by
  have h1:=rest_perm hA
  have h2:=(h1.symm.trans r.perm).trans (hp.map _)
  rw [hb,List.map_cons] at h2
  exact h2.cons_inv
theorem FRel.step {C:Cf} (tp:C.Tp g l u) (hP:C.H≤C.P) {m:Mod} {f f':Fa} {i:Int} {ats:Int→Int} (hi:0≤i) (r:FRel g l u C m f i ats) {o:OpV} (e:f.does C i o=some f') :
    (doM m (opAt ats o)).2.err=0∧FRel g l u C (doM m (opAt ats o)).1 f' (i+1) (upd ats i (doM m (opAt ats o)).2.at_)∧(4≤o.k∧o.k≤8→0≤o.p∧o.p<i):=by
  have fs:=r.ok.c.facts
  have tpm:m.c.Tp g l u:=by rw [r.c];exact tp
  unfold Fa.does at e
  unfold opAt
  by_cases h1:o.k=1
  · rw [if_pos h1] at e
    rw [if_neg (by omega)]
    obtain ⟨a,b⟩:=r.gives tp hP hi (.inl ⟨h1,rfl⟩) e
    exact ⟨a,b,fun h=>by omega⟩
  rw [if_neg h1] at e
  by_cases h2:o.k=2
  · rw [if_pos h2] at e
    rw [if_neg (by omega)]
    split at e
    · rename_i hp
      have hpe:(productS C.N o.n o.s).1=o.n*o.s∧0≤o.n*o.s∧o.n*o.s≤C.N:=by
        unfold productS at hp ⊢
        by_cases c1:o.n<0∨o.s<0
        · rw [if_pos c1] at hp;simp at hp
        · rw [if_neg c1] at hp ⊢
          by_cases c2:o.n*o.s>C.N
          · rw [if_pos c2] at hp;simp at hp
          · rw [if_neg c2];exact ⟨rfl,Int.mul_nonneg (by omega) (by omega),by omega⟩
      have fc:=tp.ok.facts
      obtain ⟨a,b⟩:=r.gives tp hP hi (o:=o) (.inr ⟨h2,Prod.ext rfl hp,by rw [wrap_id (by omega) (by omega)];exact hpe.1.symm⟩) e
      exact ⟨a,b,fun h=>by omega⟩
    · cases e
  rw [if_neg h2] at e
  have inC:∀ {p s:Int},aGet f.held p=some s→0≤p∧p<i:=fun h=>by have:=r.inv.keys _ (aGet_mem h);exact ⟨this.1,this.2.1⟩
  by_cases h4:o.k=4
  · rw [if_pos h4] at e
    rw [if_pos (by omega)]
    obtain ⟨f1,g1,g2⟩:=Option.bind_eq_some_iff.1 e
    obtain ⟨inv1,s0,k1,k2,k3,k4⟩:=r.inv.goes g1
    obtain ⟨A,hA,hf,hb⟩:=r.find k1
    obtain ⟨inv,e1,e2,s1,s2,s3,s4⟩:=inv1.asks hi g2
    obtain ⟨k,hk,hc,hc2,hc3⟩:=charge_fair tp.ex s1 s2 s3
    have rp:=r.rest hA hb k4
    have hrest:=chSum_rest hA
    have hlive:=r.ok.live
    have hM2:=tp.full (k:=0) (by omega)
    have z:=Nat.two_pow_pos (g+k)
    have hl2:chSum (m.bl.take A++m.bl.drop (A+1))≤2*f1.all:=by
      rw [chSum_perm rp,inv1.sum]
      exact sum_twice tp ats fun x hx=>by have:=inv1.keys x hx;omega
    have hbr:∀ b∈m.bl.take A++m.bl.drop (A+1),Bin g l u b:=by
      intro b h
      rcases List.mem_append.1 h with h | h
      · exact r.bin b (List.mem_of_mem_take h)
      · exact r.bin b (List.mem_of_mem_drop h)
    obtain ⟨j,on',fr,hj,hfree,hp⟩:=place_all tpm r.ok (r.pages hP) hbr hk (by rw [r.c];omega) o.s
    have hnew:newS m.c.G m.c.N m.c.M (m.live-m.bl[A].ch) o.s 1=(((2 ^ (g+k):Nat):Int),0):=by
      unfold newS
      rw [r.c,hc,if_pos rfl,if_neg (by dsimp only;omega)]
    have hd:∃ mem,doM m { o with p:=ats o.p } = ({ setM m (m.bl.take A++m.bl.drop (A+1)) ((j:Int)*((2 ^ (g+k):Nat):Int)) ((2 ^ (g+k):Nat):Int) o.s on' fr with mem:=mem },⟨0,(j:Int)*((2 ^ (g+k):Nat):Int),0,0,0,0,0,0⟩):=by
      unfold doM
      simp only [h4,show ¬ ((4:Int)=1) by decide,show ¬ ((4:Int)=2) by decide,show ¬ ((4:Int)=3) by decide,show ¬ ((4:Int)=9) by decide,show ¬ ((4:Int)=10) by decide,or_false,true_or,if_true,if_false,hf,getD_lt _ hA]
      unfold ofM
      simp only [if_true,hnew,hp]
      exact ⟨_,rfl⟩
    obtain ⟨mem,hd⟩:=hd
    obtain ⟨okd,hcd⟩:=doM_ok r.ok { o with p:=ats o.p }
    obtain ⟨_,bind,_⟩:=doM_good tpm r.ok r.bin { o with p:=ats o.p }
    rw [hd] at okd hcd bind ⊢
    refine ⟨rfl,⟨okd,hcd.trans r.c,bind,?_,inv,?_⟩,fun _=>inC k1⟩
    · exact (r.srt.rest A).put (by omega) (fun b hb=>(r.ok.bl.rest A b hb).2.1) hfree
    · have pb:=putB_perm ⟨(j:Int)*((2 ^ (g+k):Nat):Int),((2 ^ (g+k):Nat):Int),o.s⟩ (m.bl.take A++m.bl.drop (A+1))
      rw [e1,List.map_append,upd_map fun x hx=>(inv1.keys x hx).2.1]
      refine (pb.trans (rp.cons _)).trans ?_
      have e5:[(i,o.s)].map (fun x=>(⟨upd ats i ((j:Int)*((2 ^ (g+k):Nat):Int)) x.1,(chargeS C.G C.N x.2 1).1,x.2⟩:Blk))=[⟨(j:Int)*((2 ^ (g+k):Nat):Int),((2 ^ (g+k):Nat):Int),o.s⟩]:=by
        simp only [List.map_cons,List.map_nil,upd,if_true,hc]
      dsimp only at e5 ⊢
      rw [e5]
      exact List.perm_append_comm (l₁:=[_])
  rw [if_neg h4] at e
  by_cases h5:o.k=5
  · rw [if_pos h5] at e
    rw [if_pos (by omega)]
    obtain ⟨inv1,s0,k1,k2,k3,k4⟩:=r.inv.goes e
    obtain ⟨A,hA,hf,hb⟩:=r.find k1
    have rp:=r.rest hA hb k4
    have hd:doM m { o with p:=ats o.p } = ({ m with bl:=m.bl.take A++m.bl.drop (A+1),live:=m.live-m.bl[A].ch },errA 0):=by
      unfold doM
      simp only [h5,show ¬ ((5:Int)=1) by decide,show ¬ ((5:Int)=2) by decide,show ¬ ((5:Int)=3) by decide,show ¬ ((5:Int)=9) by decide,show ¬ ((5:Int)=10) by decide,or_false,or_true,true_or,if_true,if_false,hf,getD_lt _ hA]
      unfold ofM
      simp only [show ¬ ((5:Int)=4) by decide,if_true,if_false]
    obtain ⟨okd,hcd⟩:=doM_ok r.ok { o with p:=ats o.p }
    obtain ⟨_,bind,_⟩:=doM_good tpm r.ok r.bin { o with p:=ats o.p }
    rw [hd] at okd hcd bind ⊢
    exact ⟨rfl,⟨okd,hcd.trans r.c,bind,r.srt.rest A,inv1.mono (by omega),by rw [upd_map fun x hx=>(inv1.keys x hx).2.1];exact rp⟩,fun _=>inC k1⟩
  rw [if_neg h5] at e
  by_cases h6:o.k=6
  · rw [if_pos h6] at e
    rw [if_pos (by omega)]
    split at e
    · rename_i hs
      cases e
      obtain ⟨s,k1⟩:=Option.isSome_iff_exists.1 hs
      obtain ⟨A,hA,hf,hb⟩:=r.find k1
      have hd:(doM m { o with p:=ats o.p }).1=m∧(doM m { o with p:=ats o.p }).2.err=0:=by
        unfold doM
        simp only [h6,show ¬ ((6:Int)=1) by decide,show ¬ ((6:Int)=2) by decide,show ¬ ((6:Int)=3) by decide,show ¬ ((6:Int)=9) by decide,show ¬ ((6:Int)=10) by decide,or_false,or_true,true_or,if_true,if_false,hf]
        unfold ofM
        simp only [show ¬ ((6:Int)=4) by decide,show ¬ ((6:Int)=5) by decide,if_true,if_false]
        exact ⟨trivial,trivial⟩
      rw [hd.1]
      exact ⟨hd.2,r.next _,fun _=>inC k1⟩
    · cases e
  rw [if_neg h6] at e
  by_cases h78:o.k=7∨o.k=8
  · rw [if_pos h78] at e
    rw [if_pos (by omega)]
    cases k1:aGet f.held o.p with
    | none=>rw [k1] at e;cases e
    | some s =>
      rw [k1] at e
      dsimp only at e
      split at e
      · rename_i hs
        cases e
        obtain ⟨A,hA,hf,hb⟩:=r.find k1
        have hk:=r.inv.keys _ (aGet_mem k1)
        dsimp only at hk
        obtain ⟨k,hk',hc,hc2,hc3⟩:=charge_fair tp.ex hk.2.2.1 hk.2.2.2.1 hk.2.2.2.2
        have hbd:¬ (o.n<0∨o.n≥m.bl[A].ch):=by rw [hb,hc];dsimp only;omega
        rcases h78 with h7 | h8
        · have hd:(doM m { o with p:=ats o.p }).1=m∧(doM m { o with p:=ats o.p }).2.err=0:=by
            unfold doM
            simp only [h7,show ¬ ((7:Int)=1) by decide,show ¬ ((7:Int)=2) by decide,show ¬ ((7:Int)=3) by decide,show ¬ ((7:Int)=9) by decide,show ¬ ((7:Int)=10) by decide,or_false,or_true,true_or,if_true,if_false,hf,getD_lt _ hA]
            unfold ofM
            simp only [show ¬ ((7:Int)=4) by decide,show ¬ ((7:Int)=5) by decide,show ¬ ((7:Int)=6) by decide,if_true,if_false,if_neg hbd]
            exact ⟨trivial,trivial⟩
          rw [hd.1]
          exact ⟨hd.2,r.next _,fun _=>inC k1⟩
        · have hd:∃ mem,doM m { o with p:=ats o.p } = ({ m with mem:=mem },errA 0):=by
            unfold doM
            simp only [h8,show ¬ ((8:Int)=1) by decide,show ¬ ((8:Int)=2) by decide,show ¬ ((8:Int)=3) by decide,show ¬ ((8:Int)=9) by decide,show ¬ ((8:Int)=10) by decide,or_true,true_or,if_true,if_false,hf,getD_lt _ hA]
            unfold ofM
            simp only [show ¬ ((8:Int)=4) by decide,show ¬ ((8:Int)=5) by decide,show ¬ ((8:Int)=6) by decide,show ¬ ((8:Int)=7) by decide,if_false,if_neg hbd]
            exact ⟨_,rfl⟩
          obtain ⟨mem,hd⟩:=hd
          obtain ⟨okd,hcd⟩:=doM_ok r.ok { o with p:=ats o.p }
          rw [hd] at okd hcd ⊢
          have r2:=r.next 0
          exact ⟨rfl,⟨okd,hcd.trans r.c,r2.bin,r2.srt,r2.inv,(r.next _).perm⟩,fun _=>inC k1⟩
      · cases e
  rw [if_neg h78] at e
  by_cases h9:o.k=9∨o.k=10
  · rw [if_pos h9] at e
    rw [if_neg (by omega)]
    cases e
    rcases h9 with h9 | h10
    · have hd:∃ on a,doM m o=({ m with on:=on },⟨0,0,a,0,0,0,0,0⟩):=by
        unfold doM
        simp only [h9,show ¬ ((9:Int)=1) by decide,show ¬ ((9:Int)=2) by decide,show ¬ ((9:Int)=3) by decide,or_false,if_true,if_false]
        exact ⟨_,_,rfl⟩
      obtain ⟨on,a,hd⟩:=hd
      obtain ⟨okd,hcd⟩:=doM_ok r.ok o
      rw [hd] at okd hcd ⊢
      have r2:=r.next 0
      exact ⟨rfl,⟨okd,hcd.trans r.c,r2.bin,r2.srt,r2.inv,(r.next _).perm⟩,fun h=>by omega⟩
    · have hd:(doM m o).1=m∧(doM m o).2.err=0:=by
        unfold doM
        simp only [h10,show ¬ ((10:Int)=1) by decide,show ¬ ((10:Int)=2) by decide,show ¬ ((10:Int)=3) by decide,show ¬ ((10:Int)=9) by decide,or_false,if_true,if_false]
        exact ⟨trivial,trivial⟩
      rw [hd.1]
      exact ⟨hd.2,r.next _,fun h=>by omega⟩
  · rw [if_neg h9] at e;cases e
theorem FRel.congr {C:Cf} {m:Mod} {f:Fa} {i:Int} {ats ats':Int→Int} (r:FRel g l u C m f i ats) (h:∀ j,0≤j→j<i→ats j=ats' j):FRel g l u C m f i ats':=by
  refine ⟨r.ok,r.c,r.bin,r.srt,r.inv,r.perm.trans (List.Perm.of_eq (List.map_congr_left fun x hx=>?_))⟩
  have:=r.inv.keys x hx
  rw [h x.1 this.1 this.2.1]
theorem FRel.zero {C:Cf} (tp:C.Tp g l u) {m:Mod} (ok:m.Ok) (hc:m.c=C) (hbl:m.bl=[]) (ats:Int→Int):FRel g l u C m fa0 0 ats :=
  ⟨ok,hc,fun b hb=>(by rw [hbl] at hb;cases hb),by rw [hbl];exact List.Pairwise.nil,FInv.zero tp.ok,by rw [hbl];exact List.Perm.nil⟩
def atsF (l:List Int):Int→Int:=fun j=>l.getD j.toNat 0
theorem atsF_set {l:List Int} {i:Nat} (h:i<l.length) (v:Int) (j:Int) (h0:0≤j):atsF (l.set i v) j=upd (atsF l) (i:Int) v j:=by
  unfold atsF upd
  by_cases e:j=i
  · rw [if_pos e,e,Int.toNat_natCast,List.getD_eq_getElem?_getD,List.getElem?_set_self h];rfl
  · rw [if_neg e]
    show (l.set i v).getD j.toNat 0=l.getD j.toNat 0
    rw [List.getD_eq_getElem?_getD,List.getD_eq_getElem?_getD,List.getElem?_set_ne (by omega)]
def askSum (l:List Blk):Int:=(l.map Blk.asked).sum
theorem FRel.asked {C:Cf} {m:Mod} {f:Fa} {i:Int} {ats:Int→Int} (r:FRel g l u C m f i ats):askSum m.bl=f.all∧∀ b∈m.bl,0≤b.asked:=by
  refine ⟨?_,fun b hb=>?_⟩
  · unfold askSum
    rw [sum_perm (r.perm.map Blk.asked),r.inv.sum,List.map_map];rfl
  · obtain ⟨x,hx,rfl⟩:=List.mem_map.1 (r.perm.mem_iff.1 hb)
    have:=r.inv.keys x hx
    dsimp only;omega
end Go.Proofs.D.S
/- A modest client: the program's own May;and clients made of numbers. -/
set_option linter.unusedVariables false
set_option linter.unusedSimpArgs false
namespace Go.Proofs.D.S
open Go Go.RowKit
variable {G G0:GH} {L:List (Nat×Obj)}
end Go.Proofs.D.S
/- Clients made of numbers. -/
set_option linter.unusedVariables false
set_option linter.unusedSimpArgs false
namespace Go.Proofs.D.S
open Go Go.RowKit
variable {G G0:GH} {L:List (Nat×Obj)}
def OpCl (o:OpV):Prop:=R64 o.s∧R64 o.a∧R64 o.n∧0≤o.b∧o.b≤255∧(o.k=1→o.p=0)
theorem r64w (x:Int):R64 (IntKind.i64.wrap x):=by rw [i64w];exact wrap_range x
def Pk (ops:List OpV):Prop:=∀ j (h:j<ops.length),4≤ops[j].k∧ops[j].k≤8→0≤ops[j].p∧ops[j].p<(j:Int)
theorem Pk.snoc {ops:List OpV} (h:Pk ops) {o:OpV} (ho:4≤o.k∧o.k≤8→0≤o.p∧o.p<(ops.length:Int)):Pk (ops++[o]):=by
  intro j hj
  by_cases hl:j<ops.length
  · rw [List.getElem_append_left hl];exact h j hl
  · have hj2:j=ops.length:=by rw [List.length_append,List.length_singleton] at hj;omega
    subst hj2
    rw [List.getElem_append_right (by omega)]
    simpa using ho
def Lv (lv:List Int) (i:Int):Prop:=∀ x∈lv,0≤x∧x<i
def ClOut (G0:GH) (L:List (Nat×Obj)) (A:Int) (x:Option Res):Prop :=
  ∃ (oid:Nat) (ops:List OpV) (G':GH),x=some ([.c (.sl 6 oid 0 ops.length)],G')∧Hp G0 G' (rowE eOp oid ops::L)∧(∀ o∈ops,OpCl o)∧(ops.length:Int)≤A∧Pk ops
structure ClSt (G0:GH) (L:List (Nat×Obj)) (G:GH) (pid lid lo n:Nat) (j:Int) (sid:Nat) (sz:List (Int×Int)) (oid:Nat) (ops:List OpV) (vid:Nat) (lv:List Int) (A i:Int):Prop where
  h:Hp G0 G (pk pid lid lo n j::(sid,.map (.c (.int .i64)) (encM eIc eIc sz))::rowE eOp oid ops::rowE eI vid lv::L)
  j:0≤j∧j≤n
  o:∀ o∈ops,OpCl o
  l:(ops.length:Int)=i
  v:(lv.length:Int)≤i
  q:Pk ops
  w:Lv lv i
  i:0≤i∧i≤A
section
variable {lid lo n:Nat} {xs:List Int} (p:PkOk G0 L lid lo n xs) {c:Cf} {A:Int} (hA:A≤1000000)
include p hA
theorem F10.sp0 {d:Nat} (ih:∀ (G:GH) (pid:Nat) (j:Int) (sid:Nat) (sz:List (Int×Int)) (oid:Nat) (ops:List OpV) (vid:Nat) (lv:List Int) (i sum:Int),i+d=A →
      ClSt G0 L G pid lid lo n j sid sz oid ops vid lv A i→ClOut G0 L A (F10.L109 machW CW A pid 0 oid 0 ops.length vid 0 lv.length sid sum i c.G c.N c.M c.L c.Pg c.P c.H c.Sd G))
    {pid:Nat} {j:Int} {sid:Nat} {sz:List (Int×Int)} {oid:Nat} {ops:List OpV} {vid:Nat} {lv:List Int} {i sum:Int} (hi:i+(d+1:Nat)=A)
    (s:ClSt G0 L G pid lid lo n j sid sz oid ops vid lv A i):ClOut G0 L A (F10.L109 machW CW A pid 0 oid 0 ops.length vid 0 lv.length sid sum i c.G c.N c.M c.L c.Pg c.P c.H c.Sd G):=by
  have hm:(1000000001:Nat)≤most:=by unfold most;decide
  have hj:=s.j
  have hii:=s.i
  have hl:=s.l
  have hv:=s.v
  have pL:∀ x y z:Nat×Obj,PkOk G0 (x::y::z::L) lid lo n xs:=fun x y z=>((p.cons _).cons _).cons _
  have nxt:∀ (G:GH) (j:Int) (sz:List (Int×Int)) (oid:Nat) (ops:List OpV) (vid:Nat) (lv:List Int) (sum:Int),ClSt G0 L G pid lid lo n j sid sz oid ops vid lv A (i+1) →
      ClOut G0 L A (F10.J106 machW CW A pid 0 oid 0 ops.length vid 0 lv.length sid sum i c.G c.N c.M c.L c.Pg c.P c.H c.Sd G):=by
    intro G j sz oid ops vid lv sum s
    rw [F10.J106_eq,i64w,wrap_id (by omega) (by omega)]
    exact ih G pid j sid sz oid ops vid lv (i+1) sum (by omega) s
  have fin:∀ (t:Bool) (G:GH) (j:Int) (sz:List (Int×Int)) (oid:Nat) (ops:List OpV) (vid:Nat) (lv:List Int) (sum v:Int),Hp G0 G (pk pid lid lo n j::(sid,.map (.c (.int .i64)) (encM eIc eIc sz))::rowE eOp oid ops::rowE eI vid lv::L)→(0≤j∧j≤n)→(∀ o∈ops,OpCl o)→(ops.length:Int)=i+1→(lv.length:Int)≤i→Pk ops→Lv lv i →
      ClOut G0 L A (F10.J92 machW CW A pid 0 oid 0 ops.length vid 0 lv.length sid sum i v t c.G c.N c.M c.L c.Pg c.P c.H c.Sd G):=by
    intro t G j sz oid ops vid lv sum v h hj ho hl hv hq hw
    rw [F10.J92_eq]
    cases t with
    | false =>
      rw [q_cf]
      exact nxt G j sz oid ops vid lv sum ⟨h,hj,ho,by omega,by omega,hq,(fun x hx=>by have:=hw x hx;omega),by omega⟩
    | true =>
      rw [q_ct]
      obtain ⟨vid2,G2,h2,k2⟩:=Hp.app1 (S:=Res) (e:=eI) (h.pick 3) i (n:=lv.length) rfl (by omega)
      rw [k2]
      dsimp only
      have h3:=(h2.back 3).pick 1
      obtain ⟨m0,m1,_⟩:=Hp.ents (ks:=.c (.int .i64)) h3
      rw [m1,q_bs]
      have h4:=(h3.set (o':=.map (.c (.int .i64)) (encM eIc eIc (aPut sz i v))) m0).back 1
      rw [← mapPut_enc eIc_inj] at h4
      have e:(lv++[i]).length=lv.length+1:=by simp
      rw [← e]
      refine nxt _ j (aPut sz i v) oid ops vid2 (lv++[i]) _ ⟨?_,hj,ho,by omega,by rw [e];omega,hq,(fun x hx=>by
        rcases List.mem_append.1 hx with hx | hx
        · have:=hw x hx;omega
        · simp at hx;subst hx;omega),by omega⟩
      rw [← mapPut_enc eIc_inj]
      exact h4
  have fin2:∀ (o:OpV) (G:GH) (j:Int) (sz:List (Int×Int)) (oid:Nat) (ops:List OpV) (vid:Nat) (lv:List Int) (sum v:Int),Hp G0 G (pk pid lid lo n j::(sid,.map (.c (.int .i64)) (encM eIc eIc sz))::rowE eOp oid ops::rowE eI vid lv::L)→(0≤j∧j≤n)→(∀ o∈ops,OpCl o)→(ops.length:Int)=i+1→(lv.length:Int)≤i→Pk ops→Lv lv i →
      ClOut G0 L A (F10.J93 machW CW A pid 0 oid 0 ops.length vid 0 lv.length sid sum i v c.G c.N c.M c.L c.Pg c.P c.H c.Sd o.k o.p o.s o.a o.n o.b G):=by
    intro o G j sz oid ops vid lv sum v h hj ho hl hv hq hw
    rw [F10.J93_eq]
    by_cases k1:o.k=1
    · rw [condD_pos k1];exact fin true G j sz oid ops vid lv sum v h hj ho hl hv hq hw
    rw [condD_neg k1]
    by_cases k2:o.k=2
    · rw [condD_pos k2];exact fin true G j sz oid ops vid lv sum v h hj ho hl hv hq hw
    rw [condD_neg k2]
    exact fin _ G j sz oid ops vid lv sum v h hj ho hl hv hq hw
  have rest:∀ (d x:Nat) (o:OpV) (G:GH) (j:Int) (sz:List (Int×Int)) (oid:Nat) (ops:List OpV) (vid:Nat) (lv:List Int) (uid:Nat) (rs:List Int) (sum k v:Int),x+d=lv.length→rs.length≤x→Lv rs i →
      Hp G0 G (rowE eI uid rs::pk pid lid lo n j::(sid,.map (.c (.int .i64)) (encM eIc eIc sz))::rowE eOp oid ops::rowE eI vid lv::L)→(0≤j∧j≤n)→(∀ o∈ops,OpCl o)→(ops.length:Int)=i+1→(lv.length:Int)≤i→Pk ops→Lv lv i →
      ClOut G0 L A (F10.L77 machW CW A pid 0 oid 0 ops.length vid 0 lv.length sid sum i k v uid 0 rs.length (x:Int) c.G c.N c.M c.L c.Pg c.P c.H c.Sd o.k o.p o.s o.a o.n o.b G):=by
    intro d
    induction d with
    | zero =>
      intro x o G j sz oid ops vid lv uid rs sum k v hx hr hrw h hj ho hl hv hq hw
      rw [F10.L77_eq,condD_neg (by omega)]
      exact fin2 o G j sz oid ops uid rs sum v ((h.back 3).sub (by simp [bk])) hj ho hl (by omega) hq hrw
    | succ d ihd =>
      intro x o G j sz oid ops vid lv uid rs sum k v hx hr hrw h hj ho hl hv hq hw
      have hxl:x<lv.length:=by omega
      have zi:decide (0≤(x:Int)∧(x:Int)<((lv.length:Nat):Int))=true:=decide_eq_true (by omega)
      have sv:=h.sl (e:=eI) (id:=vid) (xs:=lv) (by simp)
      have r0:=sv.ld x 0 hxl (by omega)
      rw [Nat.add_zero] at r0
      rw [F10.L77_eq,condD_pos (by omega)]
      simp only [zi,Int.toNat_natCast,r0,Qs]
      have go:∀ (G:GH) (uid:Nat) (rs:List Int),rs.length≤x+1→Lv rs i→Hp G0 G (rowE eI uid rs::pk pid lid lo n j::(sid,.map (.c (.int .i64)) (encM eIc eIc sz))::rowE eOp oid ops::rowE eI vid lv::L) →
          ClOut G0 L A (F10.J74 machW CW A pid 0 oid 0 ops.length vid 0 lv.length sid sum i k v uid 0 rs.length (x:Int) c.G c.N c.M c.L c.Pg c.P c.H c.Sd o.k o.p o.s o.a o.n o.b G):=by
        intro G uid rs hr hrw h
        rw [F10.J74_eq,i64w,wrap_id (by omega) (by omega)]
        exact ihd (x+1) o G j sz oid ops vid lv uid rs sum k v (by omega) hr hrw h hj ho hl hv hq hw
      by_cases hk:lv[x]=k
      · rw [decide_eq_true hk,q_nt,q_cf];exact go G uid rs (by omega) hrw h
      · rw [decide_eq_false hk,q_nf,q_ct]
        obtain ⟨uid2,G2,h2,k2⟩:=h.app1 (S:=Res) lv[x] (n:=rs.length) rfl (by omega)
        rw [k2]
        dsimp only
        have e:(rs++[lv[x]]).length=rs.length+1:=by simp
        rw [← e]
        exact go G2 uid2 _ (by rw [e];omega) (fun y hy=>by
          rcases List.mem_append.1 hy with hy | hy
          · exact hrw y hy
          · simp at hy;subst hy;exact hw _ (List.getElem_mem hxl)) h2
  have told:∀ (o:OpV) (G:GH) (j sum k v:Int),OpCl o→(4≤o.k∧o.k≤8→0≤o.p∧o.p<i)→Hp G0 G (pk pid lid lo n j::(sid,.map (.c (.int .i64)) (encM eIc eIc sz))::rowE eOp oid ops::rowE eI vid lv::L)→(0≤j∧j≤n) →
      ClOut G0 L A (F10.J95 machW CW A pid 0 oid 0 ops.length vid 0 lv.length sid sum i k v c.G c.N c.M c.L c.Pg c.P c.H c.Sd o.k o.p o.s o.a o.n o.b G):=by
    intro o G j sum k v hoc hop h hj
    rw [F10.J95_eq]
    dsimp only
    obtain ⟨oid2,G2,h2,k2⟩:=Hp.app1 (S:=Res) (e:=eOp) (h.pick 2) o (n:=ops.length) rfl (by omega)
    rw [k2]
    dsimp only
    have h3:=h2.back 2
    have e:(ops++[o]).length=ops.length+1:=by simp
    rw [← e]
    have ho2:∀ x∈ops++[o],OpCl x:=by
      intro x hx
      rcases List.mem_append.1 hx with hx | hx
      · exact s.o x hx
      · simp at hx;subst hx;exact hoc
    have hq2:Pk (ops++[o]):=s.q.snoc (by rw [hl];exact hop)
    have mid:∀ t:Bool,ClOut G0 L A (F10.J85 machW CW A pid 0 oid2 0 (ops++[o]).length vid 0 lv.length sid sum i k v t c.G c.N c.M c.L c.Pg c.P c.H c.Sd o.k o.p o.s o.a o.n o.b G2):=by
      intro t
      rw [F10.J85_eq]
      cases t with
      | false=>rw [q_cf];exact fin2 o G2 j sz oid2 _ vid lv sum v h3 hj ho2 (by rw [e];omega) (by omega) hq2 s.w
      | true =>
        rw [q_ct]
        obtain ⟨_,_,m2⟩:=Hp.ents (ks:=.c (.int .i64)) (h3.pick 1)
        rw [m2,q_bs,show (V1.c (.int .i64 k))=eIc k from rfl,mapGet_enc eIc_inj,getD_eIc]
        simp only [Qs]
        exact rest lv.length 0 o G2 j sz oid2 _ vid lv 0 [] _ k v (by omega) (by simp) (fun y hy=>by cases hy) h3.nil0 hj ho2 (by rw [e];omega) (by omega) hq2 s.w
    by_cases k5:o.k=5
    · rw [condD_pos k5];exact mid true
    · rw [condD_neg k5];exact mid _
  have R:∀ {x:Int},-1000≤x→x≤100000→R64 x:=fun a b=>by unfold R64;omega
  have kind:∀ (G:GH) (j sum k t v:Int),R64 v→((0≤k∧k<i)∨t<8∨t>14)→Hp G0 G (pk pid lid lo n j::(sid,.map (.c (.int .i64)) (encM eIc eIc sz))::rowE eOp oid ops::rowE eI vid lv::L)→(0≤j∧j≤n) →
      ClOut G0 L A (F10.J96 machW CW A pid 0 oid 0 ops.length vid 0 lv.length sid sum i k t v c.G c.N c.M c.L c.Pg c.P c.H c.Sd 1 0 0 0 0 0 G):=by
    intro G j sum k t v hv hkt h hj
    rw [F10.J96_eq]
    by_cases z:t<7
    · rw [condD_pos z];exact told ⟨1,0,v,0,0,0⟩ G j sum k v ⟨hv,R (by dsimp only;omega) (by dsimp only;omega),R (by dsimp only;omega) (by dsimp only;omega),(by dsimp only;omega),(by dsimp only;omega),(by dsimp only;omega)⟩ (by dsimp only;omega) h hj
    rw [condD_neg z]
    by_cases z:t=7
    · rw [condD_pos z];exact told ⟨2,0,v,0,1,0⟩ G j sum k v ⟨hv,R (by dsimp only;omega) (by dsimp only;omega),R (by dsimp only;omega) (by dsimp only;omega),(by dsimp only;omega),(by dsimp only;omega),(by dsimp only;omega)⟩ (by dsimp only;omega) h hj
    rw [condD_neg z]
    by_cases z:t<10
    · rw [condD_pos z];exact told ⟨4,k,v,0,0,0⟩ G j sum k v ⟨hv,R (by dsimp only;omega) (by dsimp only;omega),R (by dsimp only;omega) (by dsimp only;omega),(by dsimp only;omega),(by dsimp only;omega),(by dsimp only;omega)⟩ (by dsimp only;omega) h hj
    rw [condD_neg z]
    by_cases z:t<13
    · rw [condD_pos z];exact told ⟨5,k,0,0,0,0⟩ G j sum k v ⟨R (by dsimp only;omega) (by dsimp only;omega),R (by dsimp only;omega) (by dsimp only;omega),R (by dsimp only;omega) (by dsimp only;omega),(by dsimp only;omega),(by dsimp only;omega),(by dsimp only;omega)⟩ (by dsimp only;omega) h hj
    rw [condD_neg z]
    obtain ⟨_,_,m2⟩:=Hp.ents (ks:=.c (.int .i64)) (h.pick 1)
    by_cases z:t=13
    · rw [condD_pos z,m2,q_bs,show (V1.c (.int .i64 k))=eIc k from rfl,mapGet_enc eIc_inj,getD_eIc]
      obtain ⟨v1,j1,G1,e1,k1,a1,b1,c1,d1,f1,_⟩:=F8.sp h (pL _ _ _) hj.1 hj.2 ((aGet sz k).getD 0)
      simp only [Qs]
      rw [e1]
      simp only [Qs]
      exact told ⟨7,k,0,0,v1,0⟩ G1 j1 sum k v ⟨R (by dsimp only;omega) (by dsimp only;omega),R (by dsimp only;omega) (by dsimp only;omega),R (by dsimp only;omega) (by dsimp only;omega),(by dsimp only;omega),(by dsimp only;omega),(by dsimp only;omega)⟩ (by dsimp only;omega) k1 ⟨by omega,f1⟩
    rw [condD_neg z]
    by_cases z:t=14
    · rw [condD_pos z,m2,q_bs,show (V1.c (.int .i64 k))=eIc k from rfl,mapGet_enc eIc_inj,getD_eIc]
      obtain ⟨v1,j1,G1,e1,k1,a1,b1,c1,d1,f1,_⟩:=F8.sp h (pL _ _ _) hj.1 hj.2 ((aGet sz k).getD 0)
      obtain ⟨v2,j2,G2,e2,k2,a2,b2,c2,d2,f2,_⟩:=F8.sp k1 (pL _ _ _) (by omega) f1 256
      simp only [Qs]
      rw [e1]
      simp only [Qs]
      rw [e2]
      simp only [Qs]
      have w8:IntKind.u8.wrap v2=v2:=by
        have:IntKind.u8.wrap v2=v2 % 256:=by simp [IntKind.wrap,IntKind.signed,IntKind.bits]
        rw [this];omega
      rw [w8]
      exact told ⟨8,k,0,0,v1,v2⟩ G2 j2 sum k v ⟨R (by dsimp only;omega) (by dsimp only;omega),R (by dsimp only;omega) (by dsimp only;omega),R (by dsimp only;omega) (by dsimp only;omega),a2,b2,(by dsimp only;omega)⟩ (by dsimp only;omega) k2 ⟨by omega,f2⟩
    rw [condD_neg z]
    obtain ⟨v1,j1,G1,e1,k1,a1,b1,c1,d1,f1,_⟩:=F8.sp h (pL _ _ _) hj.1 hj.2 2
    rw [e1]
    simp only [Qs]
    exact told ⟨IntKind.i64.wrap (9+v1),0,0,0,0,0⟩ G1 j1 sum k v ⟨R (by dsimp only;omega) (by dsimp only;omega),R (by dsimp only;omega) (by dsimp only;omega),R (by dsimp only;omega) (by dsimp only;omega),(by dsimp only;omega),(by dsimp only;omega),(by dsimp only;omega)⟩ (by rw [show IntKind.i64.wrap (9+v1)=9+v1 by rw [i64w,wrap_id (by omega) (by omega)]];dsimp only;omega) k1 ⟨by omega,f1⟩
  have size:∀ (G:GH) (j sum k r t:Int),((0≤k∧k<i)∨t<8∨t>14)→Hp G0 G (pk pid lid lo n j::(sid,.map (.c (.int .i64)) (encM eIc eIc sz))::rowE eOp oid ops::rowE eI vid lv::L)→(0≤j∧j≤n) →
      ClOut G0 L A (F10.J98 machW CW A pid 0 oid 0 ops.length vid 0 lv.length sid sum i k r t c.G c.N c.M c.L c.Pg c.P c.H c.Sd 1 0 0 0 0 0 G):=by
    intro G j sum k r t hkt h hj
    rw [F10.J98_eq]
    obtain ⟨v1,j1,G1,e1,k1,a1,b1,c1,d1,f1,_⟩:=F8.sp h (pL _ _ _) hj.1 hj.2 (mx2 1 (mn2 c.N (mx2 r 1)))
    rw [e1]
    simp only [Qs]
    by_cases z:IntKind.i64.wrap (2*IntKind.i64.wrap (1+v1))<c.G
    · rw [condD_pos z];exact kind G1 j1 sum k t _ (r64w _) hkt k1 ⟨by omega,f1⟩
    · rw [condD_neg z];exact kind G1 j1 sum k t _ (r64w _) hkt k1 ⟨by omega,f1⟩
  have room:∀ (b:Bool) (G:GH) (j sum k r t:Int),(b=true∨(0≤k∧k<i)∨t<8∨t>14)→Hp G0 G (pk pid lid lo n j::(sid,.map (.c (.int .i64)) (encM eIc eIc sz))::rowE eOp oid ops::rowE eI vid lv::L)→(0≤j∧j≤n) →
      ClOut G0 L A (F10.J24 machW CW A pid 0 oid 0 ops.length vid 0 lv.length sid sum i k r t b c.G c.N c.M c.L c.Pg c.P c.H c.Sd 1 0 0 0 0 0 G):=by
    intro b G j sum k r t hkt h hj
    rw [F10.J24_eq]
    cases b with
    | false=>rw [q_cf];exact size G j sum k r t (hkt.resolve_left (by decide)) h hj
    | true=>rw [q_ct];exact size G j sum k r 15 (.inr (.inr (by decide))) h hj
  have call:∀ (G:GH) (j k:Int),(k<0∨(0≤k∧k<i))→Hp G0 G (pk pid lid lo n j::(sid,.map (.c (.int .i64)) (encM eIc eIc sz))::rowE eOp oid ops::rowE eI vid lv::L)→(0≤j∧j≤n) →
      ClOut G0 L A (F10.J101 machW CW A pid 0 oid 0 ops.length vid 0 lv.length sid sum i k c.G c.N c.M c.L c.Pg c.P c.H c.Sd 1 0 0 0 0 0 G):=by
    intro G j k hk h hj
    rw [F10.J101_eq]
    obtain ⟨v1,j1,G1,e1,k1,a1,b1,c1,d1,f1,_⟩:=F8.sp h (pL _ _ _) hj.1 hj.2 16
    rw [e1]
    simp only [Qs]
    have hj1:0≤j1∧j1≤n:=⟨by omega,f1⟩
    by_cases z1:v1≥8
    · rw [condD_pos z1]
      by_cases z2:k<0
      · rw [condD_pos z2];exact room _ G1 j1 sum k _ _ (.inl rfl) k1 hj1
      · rw [condD_neg z2]
        by_cases z3:v1<8
        · rw [condD_pos z3];exact room _ G1 j1 sum k _ _ (.inr (by omega)) k1 hj1
        · rw [condD_neg z3];exact room _ G1 j1 sum k _ _ (.inr (by omega)) k1 hj1
    · rw [condD_neg z1]
      by_cases z3:v1<8
      · rw [condD_pos z3];exact room _ G1 j1 sum k _ _ (.inr (by omega)) k1 hj1
      · rw [condD_neg z3];exact room _ G1 j1 sum k _ _ (.inr (by omega)) k1 hj1
  rw [F10.L109_eq,condD_pos (by omega),F7.sp s.h]
  simp only [Qs]
  rw [F10.J10_eq]
  by_cases hov:j≥(n:Int)
  · rw [decide_eq_true hov,q_nt,q_cf]
    exact ⟨oid,ops,G,rfl,(s.h.pick 2).sub (.cons_cons _ (.cons _ (.cons _ (.cons _ (.refl _))))),s.o,by omega,s.q⟩
  · rw [decide_eq_false hov,q_nf,q_ct]
    by_cases hz:((lv.length:Nat):Int)>0
    · rw [condD_pos hz]
      obtain ⟨v1,j1,G1,e1,k1,a1,b1,c1,d1,f1,_⟩:=F8.sp s.h (pL _ _ _) hj.1 hj.2 ((lv.length:Nat):Int)
      have c1:=c1 (by omega)
      rw [e1]
      simp only [Qs]
      have sv:=k1.sl (e:=eI) (id:=vid) (xs:=lv) (by simp)
      have r0:=sv.ld v1.toNat 0 (by omega) (by omega)
      rw [Nat.add_zero] at r0
      rw [guardD_of (by omega),r0]
      simp only [Qs]
      exact call G1 j1 _ (.inr (s.w _ (List.getElem_mem _))) k1 ⟨by omega,f1⟩
    · rw [condD_neg hz];exact call G j _ (.inl (by decide)) s.h hj
theorem F10.lp:∀ (d:Nat) (G:GH) (pid:Nat) (j:Int) (sid:Nat) (sz:List (Int×Int)) (oid:Nat) (ops:List OpV) (vid:Nat) (lv:List Int) (i sum:Int),i+d=A →
    ClSt G0 L G pid lid lo n j sid sz oid ops vid lv A i→ClOut G0 L A (F10.L109 machW CW A pid 0 oid 0 ops.length vid 0 lv.length sid sum i c.G c.N c.M c.L c.Pg c.P c.H c.Sd G)
  | 0,G,pid,j,sid,sz,oid,ops,vid,lv,i,sum,hi,s=>by
    have hl:=s.l
    rw [F10.L109_eq,condD_neg (by omega),F10.J10_eq,q_cf]
    exact ⟨oid,ops,G,rfl,(s.h.pick 2).sub (.cons_cons _ (.cons _ (.cons _ (.cons _ (.refl _))))),s.o,by omega,s.q⟩
  | d+1,G,pid,j,sid,sz,oid,ops,vid,lv,i,sum,hi,s=>F10.sp0 p hA (F10.lp d) hi s
end
theorem F10.spP (h:Hp G0 G L) {lid lo n:Nat} {xs:List Int} (p:PkOk G0 L lid lo n xs) {c:Cf} {A:Int} (hA:0≤A∧A≤1000000) :
    ClOut G0 L A (CW F10.id [.agg (cfC c),.c (.sl 1 lid lo n),.c (.int .i64 A)] G):=by
  rw [F10.cw]
  unfold F10.f
  obtain ⟨pid,G1,e1,h1⟩:=F21.sp h lid lo n
  rw [e1]
  simp only [Qs]
  have h2:=(((((h1.alloc (.map (.c (.int .i64)) (encM eIc eIc ([]:List (Int×Int))))).pick 1).nil0 (e:=eOp)).back 2).nil0 (e:=eI)).back 3
  exact F10.lp p hA.2 A.toNat _ pid 0 _ [] 0 [] 0 [] 0 0 (by omega) ⟨h2,by omega,fun o ho=>(by cases ho),rfl,by simp,(fun j hj=>by simp at hj),(fun x hx=>by cases hx),by omega⟩
theorem F10.sp (h:Hp G0 G L) {lid lo n:Nat} {xs:List Int} (p:PkOk G0 L lid lo n xs) {c:Cf} {A:Int} (hA:0≤A∧A≤1000000) :
    ∃ (oid:Nat) (ops:List OpV) (G':GH),CW F10.id [.agg (cfC c),.c (.sl 1 lid lo n),.c (.int .i64 A)] G=some ([.c (.sl 6 oid 0 ops.length)],G')∧Hp G0 G' (rowE eOp oid ops::L)∧(∀ o∈ops,OpCl o)∧(ops.length:Int)≤A:=by
  obtain ⟨a,b,c,d,e,f,g,_⟩:=F10.spP h p (c:=c) hA
  exact ⟨a,b,c,d,e,f,g⟩
end Go.Proofs.D.S
/- The reference says who is modest. -/
set_option linter.unusedVariables false
set_option linter.unusedSimpArgs false
namespace Go.Proofs.D.S
open Go Go.RowKit
variable {G G0:GH} {L:List (Nat×Obj)}
def lvA (f:Fa) (i n:Nat):List Int:=tab n fun j=>if j<i then (aGet f.held (j:Int)).getD (-1) else 0
theorem lvA_next {c:Cf} {f:Fa} {i n:Nat} (iv:FInv c f (i:Int)):(lvA f i n).set i (-1)=lvA f (i+1) n:=by
  unfold lvA
  rw [tab_set]
  refine tab_congr fun j hj=>?_
  by_cases h:j=i
  · subst h;rw [if_pos rfl,if_pos (by omega),iv.free];rfl
  · rw [if_neg h]
    by_cases h2:j<i
    · rw [if_pos h2,if_pos (by omega)]
    · rw [if_neg h2,if_neg (by omega)]
theorem lvA_goes {f f':Fa} {i n p:Nat} (nd:NoDup f.held) (hp:p<i) (e:f'.held=aDel f.held (p:Int)):(lvA f i n).set p (-1)=lvA f' i n:=by
  unfold lvA
  rw [tab_set]
  refine tab_congr fun j hj=>?_
  rw [e,aGet_del nd]
  by_cases h:j=p
  · subst h;rw [if_pos rfl,if_pos hp,if_pos rfl];rfl
  · rw [if_neg h]
    by_cases h2:j<i
    · rw [if_pos h2,if_pos h2,if_neg (by omega)]
    · rw [if_neg h2,if_neg h2]
theorem lvA_asks {f f':Fa} {i n:Nat} {s:Int} (e:f'.held=aPut f.held (i:Int) s):(lvA f (i+1) n).set i s=lvA f' (i+1) n:=by
  unfold lvA
  rw [tab_set]
  refine tab_congr fun j hj=>?_
  rw [e,aGet_put]
  by_cases h:j=i
  · subst h;rw [if_pos rfl,if_pos (by omega),if_pos rfl];rfl
  · rw [if_neg h]
    by_cases h2:j<i+1
    · rw [if_pos h2,if_pos h2,if_neg (by omega)]
    · rw [if_neg h2,if_neg h2]
theorem lvA_len {f:Fa} {i n:Nat}:(lvA f i n).length=n:=by unfold lvA;rw [tab_len]
theorem lvA_get {f:Fa} {i n j:Nat} (h:j<(lvA f i n).length) (hj:j<i):(lvA f i n)[j]=(aGet f.held (j:Int)).getD (-1):=by
  have:∀ (l:List Int) (h:j<l.length),l=lvA f i n→l[j]=(aGet f.held (j:Int)).getD (-1):=by
    rintro l h rfl
    exact (tab_get (n:=n) (f:=fun j=>if j<i then (aGet f.held (j:Int)).getD (-1) else 0) h).trans (if_pos hj)
  exact this _ h rfl
theorem FInv.nxt {c:Cf} (ok:c.Ok) {f f':Fa} {i:Int} (iv:FInv c f i) (hi:0≤i) {o:OpV} (e:f.does c i o=some f'):FInv c f' (i+1):=by
  unfold Fa.does at e
  by_cases k1:o.k=1
  · rw [if_pos k1] at e;exact (iv.asks hi e).1
  rw [if_neg k1] at e
  by_cases k2:o.k=2
  · rw [if_pos k2] at e
    split at e
    · exact (iv.asks hi e).1
    · cases e
  rw [if_neg k2] at e
  by_cases k4:o.k=4
  · rw [if_pos k4] at e
    obtain ⟨f1,g1,g2⟩:=Option.bind_eq_some_iff.1 e
    exact ((iv.goes g1).1.asks hi g2).1
  rw [if_neg k4] at e
  by_cases k5:o.k=5
  · rw [if_pos k5] at e;exact (iv.goes e).1.mono (by omega)
  rw [if_neg k5] at e
  by_cases k6:o.k=6
  · rw [if_pos k6] at e
    split at e
    · cases e;exact iv.mono (by omega)
    · cases e
  rw [if_neg k6] at e
  by_cases k7:o.k=7∨o.k=8
  · rw [if_pos k7] at e
    split at e
    · split at e
      · cases e;exact iv.mono (by omega)
      · cases e
    · cases e
  rw [if_neg k7] at e
  split at e
  · cases e;exact iv.mono (by omega)
  · cases e
set_option maxHeartbeats 8000000 in
theorem F16.sp (h:Hp G0 G L) {c:Cf} (ok:c.Ok) {pi po:Nat} {ops:List OpV} (so:Rd G0 L eOp pi po ops) (hin:∀ o∈ops,R64 o.s∧R64 o.n) (hl:ops.length≤1000000000) :
    ∃ G',CW F16.id [.agg (cfC c),.c (.sl 6 pi po ops.length)] G=some ([.c (.bool (fa0.may c 0 ops))],G')∧Hp G0 G' L:=by
  have hm:(1000000000:Nat)≤most:=by unfold most;decide
  have fs:=ok.facts
  have lp:∀ (d i:Nat) (f:Fa) (aid:Nat) (G8:GH),i+d=ops.length→FInv c f (i:Int)→Hp G0 G8 (rowE eI aid (lvA f i ops.length)::L) →
      ∃ G',F16.L115 machW CW pi po ops.length aid 0 ops.length f.all (i:Int) c.G c.N c.M c.L c.Pg c.P c.H c.Sd G8=some ([.c (.bool (f.may c i (ops.drop i)))],G')∧Hp G0 G' L:=by
    intro d
    induction d with
    | zero =>
      intro i f aid G8 hi iv k
      rw [F16.L115_eq,condD_neg (by omega),List.drop_eq_nil_of_le (by omega)]
      exact ⟨G8,rfl,k.tl⟩
    | succ d ih =>
      intro i f aid G8 hi iv k
      have hil:i<ops.length:=by omega
      have ed:ops.drop i=ops[i]::ops.drop (i+1):=List.drop_eq_getElem_cons hil
      have zi:decide (0≤(i:Int)∧(i:Int)<((ops.length:Nat):Int))=true:=decide_eq_true (by omega)
      have sO:=so _ k.tl
      obtain ⟨rs,rn⟩:=hin _ (List.getElem_mem hil)
      have q0:=sO.ld i 0 hil (by omega)
      have q1:=sO.ld i 1 hil (by omega)
      have q2:=sO.ld i 2 hil (by omega)
      have q3:=sO.ld i 3 hil (by omega)
      have q4:=sO.ld i 4 hil (by omega)
      have q5:=sO.ld i 5 hil (by omega)
      obtain ⟨G9,k9,e9⟩:=k.put (i:=i) (by rw [lvA_len];exact hil) (-1) (off:=0+i*1) (by omega) rfl
      rw [lvA_next iv] at k9
      simp only [eI] at e9
      rw [ed]
      simp only [Fa.may]
      generalize ops[i]=o at *
      have all0:=iv.pos
      have alle:=iv.le
      have fin0:f.does c (i:Int) o=none→∀ G9:GH,Hp G0 G9 L→∃ G',(some ([V1.c (.bool false)],G9):Option Res)=some ([.c (.bool (match f.does c (i:Int) o with | some f=>f.may c (i+1) (ops.drop (i+1)) | none=>false))],G')∧Hp G0 G' L:=fun e G9 k=>by
        rw [e];exact ⟨G9,rfl,k⟩
      have nxt:∀ (f':Fa) (G9:GH),f.does c (i:Int) o=some f'→Hp G0 G9 (rowE eI aid (lvA f' (i+1) ops.length)::L) →
          ∃ G',F16.J112 machW CW pi po ops.length aid 0 ops.length f'.all (i:Int) c.G c.N c.M c.L c.Pg c.P c.H c.Sd G9=some ([.c (.bool (match f.does c (i:Int) o with | some f=>f.may c (i+1) (ops.drop (i+1)) | none=>false))],G')∧Hp G0 G' L:=by
        intro f' G9 e k9
        rw [e,F16.J112_eq,i64w,wrap_id (by omega) (by omega)]
        exact ih (i+1) f' aid G9 (by omega) (iv.nxt ok (by omega) e) k9
      have ask:∀ (f1:Fa) (s:Int) (G9:GH),(f.does c (i:Int) o=f1.asks c (i:Int) s)→0≤f1.all→f1.all≤c.M / 2→Hp G0 G9 (rowE eI aid (lvA f1 (i+1) ops.length)::L) →
          ∃ G',F16.J104 machW CW pi po ops.length aid 0 ops.length f1.all (i:Int) s c.G c.N c.M c.L c.Pg c.P c.H c.Sd G9=some ([.c (.bool (match f.does c (i:Int) o with | some f=>f.may c (i+1) (ops.drop (i+1)) | none=>false))],G')∧Hp G0 G' L:=by
        intro f1 s G9 e a0 a1 k9
        have bad:∀ t:Bool,t=true→¬ (1≤s∧s≤c.N∧c.G≤2*s∧s≤c.M / 2-f1.all)→∃ G',F16.J101 machW CW pi po ops.length aid 0 ops.length f1.all (i:Int) s t c.G c.N c.M c.L c.Pg c.P c.H c.Sd G9=some ([.c (.bool (match f.does c (i:Int) o with | some f=>f.may c (i+1) (ops.drop (i+1)) | none=>false))],G')∧Hp G0 G' L:=by
          rintro t rfl hn
          rw [F16.J101_eq,q_ct]
          exact fin0 (by rw [e];unfold Fa.asks;rw [if_neg hn]) G9 k9.tl
        rw [F16.J104_eq]
        by_cases h1:s<1
        · rw [condD_pos h1];exact bad true rfl (by omega)
        rw [condD_neg h1]
        by_cases h2:s>c.N
        · rw [condD_pos h2];exact bad true rfl (by omega)
        rw [condD_neg h2,i64w,wrap_id (by omega) (by omega)]
        by_cases h3:2*s<c.G
        · rw [condD_pos h3];exact bad true rfl (by omega)
        rw [condD_neg h3,i64w,wrap_id (by omega) (by omega),i64w,Int.tdiv_eq_ediv_of_nonneg (by omega),wrap_id (by omega) (by omega)]
        by_cases h4:f1.all+s>c.M / 2
        · exact bad _ (decide_eq_true h4) (by omega)
        · rw [decide_eq_false h4,F16.J101_eq,q_cf,zi,q_gk]
          obtain ⟨G10,k10,e10⟩:=k9.put (i:=i) (by rw [lvA_len];exact hil) s (off:=0+i*1) (by omega) rfl
          simp only [eI] at e10
          have hf:f1.asks c (i:Int) s=some ⟨aPut f1.held (i:Int) s,f1.all+s⟩:=by
            unfold Fa.asks;rw [if_pos (by omega)]
          rw [lvA_asks (f':=⟨aPut f1.held (i:Int) s,f1.all+s⟩) rfl] at k10
          rw [Int.toNat_natCast,e10,q_bs,i64w,wrap_id (by omega) (by omega)]
          exact nxt _ G10 (e.trans hf) k10
      have is:∀ p:Int,(aGet f.held p).isSome=true→∃ (pn:Nat) (s:Int),p=(pn:Int)∧pn<i∧aGet f.held p=some s∧1≤s∧s≤c.N:=by
        intro p hp
        obtain ⟨s,hs⟩:=Option.isSome_iff_exists.1 hp
        have:=iv.keys _ (aGet_mem hs)
        dsimp only at this
        exact ⟨p.toNat,s,by omega,by omega,hs,by omega,by omega⟩
      have j74:∀ (t:Bool),t=decide (4≤o.k∧o.k≤8)→o.k≠9→o.k≠10 →
          ∃ G',F16.J74 machW CW pi po ops.length aid 0 ops.length f.all (i:Int) (aGet f.held o.p).isSome o.k t c.G c.N c.M c.L c.Pg c.P c.H c.Sd o.k o.p o.s o.a o.n o.b G9=some ([.c (.bool (match f.does c (i:Int) o with | some f=>f.may c (i+1) (ops.drop (i+1)) | none=>false))],G')∧Hp G0 G' L:=by
        intro t ht h9 h10
        rw [F16.J74_eq]
        by_cases h48:4≤o.k∧o.k≤8
        · rw [ht,decide_eq_true h48,q_ct]
          cases his:(aGet f.held o.p).isSome with
          | false =>
            rw [q_nf,q_ct]
            have hn:aGet f.held o.p=none:=by simpa using his
            refine fin0 ?_ G9 k9.tl
            unfold Fa.does
            rw [if_neg (by omega),if_neg (by omega)]
            by_cases h4:o.k=4
            · rw [if_pos h4];unfold Fa.goes;rw [hn];rfl
            rw [if_neg h4]
            by_cases h5:o.k=5
            · rw [if_pos h5];unfold Fa.goes;rw [hn];rfl
            rw [if_neg h5]
            by_cases h6:o.k=6
            · rw [if_pos h6,hn];rfl
            rw [if_neg h6,if_pos (by omega),hn]
          | true =>
            rw [q_nt,q_cf]
            obtain ⟨pn,s,ep,hpi,hs,s1,s2⟩:=is o.p his
            have hpn:pn<(lvA f (i+1) ops.length).length:=by rw [lvA_len];omega
            have zp:decide (0≤o.p∧o.p<((ops.length:Nat):Int))=true:=decide_eq_true (by omega)
            have ldp:=k9.sl0.ld pn 0 hpn (by omega)
            rw [lvA_get hpn (by omega),← ep,hs,Nat.add_zero] at ldp
            have tp:o.p.toNat=pn:=by omega
            have goe:f.goes o.p=some ⟨aDel f.held o.p,f.all-s⟩:=by unfold Fa.goes;rw [hs];rfl
            obtain ⟨iv1,_⟩:=iv.goes goe
            have all1:=iv1.pos
            have alle1:=iv1.le
            dsimp only at all1 alle1
            have j53:∀ t:Bool,t=decide (o.k=4∨o.k=5)→(o.k=7∨o.k=8→0≤o.n∧o.n<s) →
                ∃ G',F16.J53 machW CW pi po ops.length aid 0 ops.length f.all (i:Int) t c.G c.N c.M c.L c.Pg c.P c.H c.Sd o.k o.p o.s o.a o.n o.b G9=some ([.c (.bool (match f.does c (i:Int) o with | some f=>f.may c (i+1) (ops.drop (i+1)) | none=>false))],G')∧Hp G0 G' L:=by
              intro t ht hn78
              rw [F16.J53_eq]
              by_cases h45:o.k=4∨o.k=5
              · rw [ht,decide_eq_true h45,q_ct,zp,q_gk,tp,ldp]
                simp only [Option.getD_some,eI,List.getElem?_cons_zero,Qs]
                obtain ⟨G10,k10,e10⟩:=k9.put (i:=pn) hpn (-1) (off:=0+pn*1) (by omega) rfl
                simp only [eI] at e10
                have hnext:(lvA f (i+1) ops.length).set pn (-1)=lvA ⟨aDel f.held o.p,f.all-s⟩ (i+1) ops.length:=lvA_goes iv.nd (by omega) (by rw [ep])
                rw [hnext] at k10
                rw [e10,q_bs,i64w,wrap_id (by omega) (by omega),F16.J59_eq]
                by_cases h4:o.k=4
                · rw [condN_neg h4,F16.J106_eq,condD_neg (by omega)]
                  refine ask ⟨aDel f.held o.p,f.all-s⟩ o.s G10 ?_ all1 alle1 k10
                  unfold Fa.does
                  rw [if_neg (by omega),if_neg (by omega),if_pos h4,goe];rfl
                · rw [condN_pos h4]
                  refine nxt ⟨aDel f.held o.p,f.all-s⟩ G10 ?_ k10
                  unfold Fa.does
                  rw [if_neg (by omega),if_neg (by omega),if_neg h4,if_pos (by omega),goe]
              · rw [ht,decide_eq_false h45,q_cf,F16.J59_eq,condN_pos (by omega)]
                refine nxt f G9 ?_ k9
                unfold Fa.does
                rw [if_neg (by omega),if_neg (by omega),if_neg (by omega),if_neg (by omega)]
                by_cases h6:o.k=6
                · rw [if_pos h6,hs];rfl
                · rw [if_neg h6,if_pos (by omega),hs]
                  dsimp only
                  rw [if_pos (hn78 (by omega))]
            have j48:∀ t:Bool,(o.k=7∨o.k=8)→t=decide (¬ (0≤o.n∧o.n<s))→∃ G',F16.J48 machW CW pi po ops.length aid 0 ops.length f.all (i:Int) t c.G c.N c.M c.L c.Pg c.P c.H c.Sd o.k o.p o.s o.a o.n o.b G9=some ([.c (.bool (match f.does c (i:Int) o with | some f=>f.may c (i+1) (ops.drop (i+1)) | none=>false))],G')∧Hp G0 G' L:=by
              intro t h78 ht
              rw [F16.J48_eq]
              by_cases hb:0≤o.n∧o.n<s
              · rw [ht,decide_eq_false (by simpa using hb),q_cf,condD_neg (by omega)]
                exact j53 _ (decide_eq_decide.2 (by omega)) fun _=>hb
              · rw [ht,decide_eq_true hb,q_ct]
                refine fin0 ?_ G9 k9.tl
                unfold Fa.does
                rw [if_neg (by omega),if_neg (by omega),if_neg (by omega),if_neg (by omega),if_neg (by omega),if_pos (by omega),hs]
                dsimp only
                rw [if_neg hb]
            have rest:o.k≠7→o.k≠8→∃ G',F16.J48 machW CW pi po ops.length aid 0 ops.length f.all (i:Int) false c.G c.N c.M c.L c.Pg c.P c.H c.Sd o.k o.p o.s o.a o.n o.b G9=some ([.c (.bool (match f.does c (i:Int) o with | some f=>f.may c (i+1) (ops.drop (i+1)) | none=>false))],G')∧Hp G0 G' L:=by
              intro h7 h8
              rw [F16.J48_eq,q_cf]
              by_cases h5:o.k=5
              · rw [condD_pos h5];exact j53 true (by simp [h5]) fun h=>by omega
              · rw [condD_neg h5];exact j53 _ (decide_eq_decide.2 (by omega)) fun h=>by omega
            by_cases h7:o.k=7
            · rw [condD_pos h7]
              by_cases hn0:o.n<0
              · rw [condD_pos hn0];exact j48 true (.inl h7) (decide_eq_true (by omega)).symm
              · rw [condD_neg hn0,zp,q_gk,tp,ldp]
                simp only [Option.getD_some,eI,List.getElem?_cons_zero,Qs]
                exact j48 _ (.inl h7) (decide_eq_decide.2 (by omega))
            rw [condD_neg h7]
            by_cases h8:o.k=8
            · rw [condD_pos h8]
              by_cases hn0:o.n<0
              · rw [condD_pos hn0];exact j48 true (.inr h8) (decide_eq_true (by omega)).symm
              · rw [condD_neg hn0,zp,q_gk,tp,ldp]
                simp only [Option.getD_some,eI,List.getElem?_cons_zero,Qs]
                exact j48 _ (.inr h8) (decide_eq_decide.2 (by omega))
            rw [condD_neg h8]
            exact rest h7 h8
        · rw [ht,decide_eq_false h48,q_cf]
          have j72:∀ t:Bool,t=decide (o.k=1∨o.k=2)→∃ G',F16.J72 machW CW pi po ops.length aid 0 ops.length f.all (i:Int) t c.G c.N c.M c.L c.Pg c.P c.H c.Sd o.k o.p o.s o.a o.n o.b G9=some ([.c (.bool (match f.does c (i:Int) o with | some f=>f.may c (i+1) (ops.drop (i+1)) | none=>false))],G')∧Hp G0 G' L:=by
            intro t ht
            rw [F16.J72_eq]
            by_cases h12:o.k=1∨o.k=2
            · rw [ht,decide_eq_true h12,q_ct,F16.J106_eq]
              by_cases h2:o.k=2
              · have pr:=F11.sp (G:=G9) ok rn rs
                rw [cfC] at pr
                rw [condD_pos h2,pr]
                simp only [Qs]
                by_cases hp0:(productS c.N o.n o.s).2=0
                · rw [condN_neg hp0]
                  refine ask f _ G9 ?_ all0 alle k9
                  unfold Fa.does
                  rw [if_neg (by omega),if_pos h2,if_pos hp0]
                · rw [condN_pos hp0]
                  refine fin0 ?_ G9 k9.tl
                  unfold Fa.does
                  rw [if_neg (by omega),if_pos h2,if_neg hp0]
              · rw [condD_neg h2]
                refine ask f _ G9 ?_ all0 alle k9
                unfold Fa.does
                rw [if_pos (by omega)]
            · rw [ht,decide_eq_false h12,q_cf]
              refine fin0 ?_ G9 k9.tl
              unfold Fa.does
              rw [if_neg (by omega),if_neg (by omega),if_neg (by omega),if_neg (by omega),if_neg (by omega),if_neg (by omega),if_neg (by omega)]
          by_cases h1:o.k=1
          · rw [condD_pos h1];exact j72 _ (decide_eq_decide.2 (by omega))
          · rw [condD_neg h1];exact j72 _ (decide_eq_decide.2 (by omega))
      have j107:∀ t:Bool,t=(aGet f.held o.p).isSome→∃ G',F16.J107 machW CW pi po ops.length aid 0 ops.length f.all (i:Int) t c.G c.N c.M c.L c.Pg c.P c.H c.Sd o.k o.p o.s o.a o.n o.b G9=some ([.c (.bool (match f.does c (i:Int) o with | some f=>f.may c (i+1) (ops.drop (i+1)) | none=>false))],G')∧Hp G0 G' L:=by
        rintro t rfl
        have d910:o.k=9∨o.k=10→f.does c (i:Int) o=some f:=fun h=>by
          unfold Fa.does
          rw [if_neg (by omega),if_neg (by omega),if_neg (by omega),if_neg (by omega),if_neg (by omega),if_neg (by omega),if_pos h]
        rw [F16.J107_eq]
        by_cases h9:o.k=9
        · rw [condD_pos h9,decide_eq_true h9,F16.J76_eq,q_ct]
          exact nxt f G9 (d910 (.inl h9)) k9
        rw [condD_neg h9,F16.J76_eq]
        by_cases h10:o.k=10
        · rw [decide_eq_true h10,q_ct]
          exact nxt f G9 (d910 (.inr h10)) k9
        rw [decide_eq_false h10,q_cf]
        by_cases h5:o.k=5
        · rw [condD_pos h5];exact j74 _ (decide_eq_decide.2 (by omega)) h9 h10
        rw [condD_neg h5]
        by_cases h6:o.k=6
        · rw [condD_pos h6];exact j74 _ (decide_eq_decide.2 (by omega)) h9 h10
        rw [condD_neg h6]
        by_cases h7:o.k=7
        · rw [condD_pos h7];exact j74 _ (decide_eq_decide.2 (by omega)) h9 h10
        rw [condD_neg h7]
        by_cases h8:o.k=8
        · rw [condD_pos h8];exact j74 _ (decide_eq_decide.2 (by omega)) h9 h10
        rw [condD_neg h8]
        exact j74 _ (decide_eq_decide.2 (by omega)) h9 h10
      have none_of:¬ (0≤o.p∧o.p<(i:Int))→(aGet f.held o.p).isSome=false:=fun hn=>by
        cases hq:(aGet f.held o.p).isSome with
        | false=>rfl
        | true=>obtain ⟨pn,s,e1,e2,_⟩:=is o.p hq;omega
      rw [F16.L115_eq,condD_pos (by omega),zi]
      simp only [Int.toNat_natCast,q0,q1,q2,q3,q4,q5,e9,Qs,List.getElem?_cons_zero,List.getElem?_cons_succ]
      by_cases p0:o.p≥0
      · rw [condD_pos p0]
        by_cases p1:o.p<(i:Int)
        · have hpn:o.p.toNat<(lvA f (i+1) ops.length).length:=by rw [lvA_len];omega
          have ldp:=k9.sl0.ld o.p.toNat 0 hpn (by omega)
          rw [lvA_get hpn (by omega),show ((o.p.toNat:Nat):Int)=o.p by omega,Nat.add_zero] at ldp
          rw [condD_pos p1,guardD_of (by omega),ldp]
          simp only [eI,List.getElem?_cons_zero,Qs]
          refine j107 _ ?_
          cases hq:aGet f.held o.p with
          | none=>rfl
          | some s =>
            obtain ⟨_,s2,_,_,hs,s3,_⟩:=is o.p (by rw [hq];rfl)
            rw [hq] at hs
            cases hs
            exact decide_eq_true (show (some s).getD (-1)≥0 by show s≥0;omega)
        · rw [condD_neg p1];exact j107 false (none_of (by omega)).symm
      · rw [condD_neg p0];exact j107 false (none_of (by omega)).symm
  rw [F16.cw]
  unfold F16.f
  rw [guardD_of (by omega),Int.toNat_natCast]
  have h1:=h.alloc (.row (reps ops.length [.int .i64 0]) false)
  rw [show [Cell.int IntKind.i64 0]=eI 0 from rfl,reps_tab (e:=eI) ops.length (0:Int)] at h1 ⊢
  have e0:(tab ops.length fun _=>(0:Int))=lvA fa0 0 ops.length:=tab_congr fun j hj=>by rw [if_neg (by omega)]
  rw [e0] at h1 ⊢
  have:=lp ops.length 0 fa0 G.next _ (by omega) (FInv.zero ok) h1
  rw [List.drop_zero] at this
  exact this
end Go.Proofs.D.S
/- What may not differ,plainly: the program's own reader. -/
set_option linter.unusedVariables false
namespace Go.Proofs.D.S
open Go Go.RowKit
section
variable {κ β γ:Type} [DecidableEq κ]
variable {f:β→γ}
end
structure PB where
  (ch no:Int)
  tl:List Int
def PB.knows (b:PB) (n:Int):Bool:=decide (n<b.no)||b.tl.contains n
def chargeO (c:Cf) (o:OpV):Int :=
  if o.k=2 then (c.charge (productS c.N o.n o.s).1 1).1 else if o.k=3 then (c.charge o.s o.a).1 else (c.charge o.s 1).1
end Go.Proofs.D.S
/- Calls that fail change nothing. -/
set_option linter.unusedVariables false
namespace Go.Proofs.D.S
open Go Go.RowKit
theorem giveM_fail (m:Mod) (o:OpV) (h:(giveM m o).2.err≠0):(giveM m o).1=m:=by
  unfold giveM at h ⊢
  dsimp only at h ⊢
  generalize (if o.k=2 then manyS m.c.G m.c.N m.c.M m.live o.n o.s else newS m.c.G m.c.N m.c.M m.live o.s (if o.k=3 then o.a else 1))=r at h ⊢
  generalize (if o.k=2 then wrap64 (o.n*o.s) else o.s)=s at h ⊢
  by_cases h1:r.2=0
  · rw [if_pos h1] at h ⊢
    by_cases h2:(placeM m m.bl r.1 s).2.2=0
    · rw [if_pos h2] at h;exact absurd rfl h
    · rw [if_neg h2]
  · rw [if_neg h1]
theorem ofM_fail (m:Mod) (o:OpV) (A:Nat) (b:Blk) (h:(ofM m o A b).2.err≠0):(ofM m o A b).1=m:=by
  unfold ofM at h ⊢
  dsimp only at h ⊢
  by_cases h4:o.k=4
  · rw [if_pos h4] at h ⊢
    by_cases h1:(newS m.c.G m.c.N m.c.M (m.live-b.ch) o.s 1).2=0
    · rw [if_pos h1] at h ⊢
      by_cases h2:(placeM m (m.bl.take A++m.bl.drop (A+1)) (newS m.c.G m.c.N m.c.M (m.live-b.ch) o.s 1).1 o.s).2.2=0
      · rw [if_pos h2] at h;exact absurd rfl h
      · rw [if_neg h2]
    · rw [if_neg h1]
  · rw [if_neg h4] at h ⊢
    by_cases h5:o.k=5
    · rw [if_pos h5] at h;exact absurd rfl h
    · rw [if_neg h5] at h ⊢
      by_cases h6:o.k=6
      · rw [if_pos h6]
      · rw [if_neg h6] at h ⊢
        by_cases h7:o.n<0∨o.n≥b.ch
        · rw [if_pos h7]
        · rw [if_neg h7] at h ⊢
          by_cases h8:o.k=7
          · rw [if_pos h8]
          · rw [if_neg h8] at h;exact absurd rfl h
theorem doM_fail (m:Mod) (o:OpV) (h:(doM m o).2.err≠0):(doM m o).1=m:=by
  unfold doM at h ⊢
  by_cases h1:o.k=1∨o.k=2∨o.k=3
  · rw [if_pos h1] at h ⊢;exact giveM_fail m o h
  · rw [if_neg h1] at h ⊢
    by_cases h9:o.k=9
    · rw [if_pos h9] at h;exact absurd rfl h
    · rw [if_neg h9] at h ⊢
      by_cases h10:o.k=10
      · rw [if_pos h10]
      · rw [if_neg h10] at h ⊢
        by_cases h4:o.k=4∨o.k=5∨o.k=6∨o.k=7∨o.k=8
        · rw [if_pos h4] at h ⊢
          cases e:findB m.bl o.p with
          | none=>rfl
          | some A=>rw [e] at h;exact ofM_fail m o A _ h
        · rw [if_neg h4]
end Go.Proofs.D.S
/- Two models that are alike,but for what nobody stored. -/
set_option linter.unusedVariables false
namespace Go.Proofs.D.S
open Go Go.RowKit
def withS (m:Mod) (sd:Int) (on:List Bool) (mem:List Int):Mod:={ m with c:={ m.c with Sd:=sd },on:=on,mem:=mem }
def Sim (m m2:Mod):Prop:=m2=withS m m2.c.Sd m2.on m2.mem∧m2.on.length=m.on.length
end Go.Proofs.D.S
/- What bytes become of a call. -/
set_option linter.unusedVariables false
namespace Go.Proofs.D.S
open Go Go.RowKit
def byteAt (m:Mod) (a x:Int):Int:=m.mem.getD (a+x).toNat 0
def onB (m:Mod) (b:Blk):Prop:=∀ y,b.at_≤y→y<b.at_+b.ch→m.on.getD (y / m.c.Pg).toNat false=true
structure Inv (m:Mod):Prop where
  ok:m.Ok
  srt:Srt m.bl
  on:∀ b∈m.bl,onB m b
theorem inv_nil {m:Mod} (ok:m.Ok) (h:m.bl=[]):Inv m:=⟨ok,by rw [h];exact List.Pairwise.nil,fun b hb=>(by rw [h] at hb;cases hb)⟩
theorem fillP_getD (mem:List Int) (sd p pg:Int) (i:Nat) (h:((i:Int) / pg)≠p):(fillP mem sd p pg).getD i 0=mem.getD i 0:=by
  unfold fillP
  by_cases hi:i<mem.length
  · rw [tab_getD 0 hi,if_neg h]
  · rw [List.getD_eq_getElem?_getD,List.getD_eq_getElem?_getD,List.getElem?_eq_none (by rw [tab_len];omega),List.getElem?_eq_none (by omega)]
theorem fills_getD (sd pg:Int) (i:Nat):∀ (fr:List Int) (mem:List Int),((i:Int) / pg) ∉ fr→(fr.foldl (fun mem p=>fillP mem sd p pg) mem).getD i 0=mem.getD i 0
  | [],_,_=>rfl
  | p::fr,mem,h=>by
    rw [List.foldl_cons,fills_getD sd pg i fr _ (fun e=>h (List.mem_cons_of_mem _ e)),fillP_getD]
    exact fun e=>h (by rw [e];simp)
theorem fresh_off {on:List Bool} {f b:Int} {k:Nat} {x:Int} (h:x∈freshP on f b k):on.getD x.toNat false=false:=by
  unfold freshP at h
  obtain ⟨i,hi,rfl⟩:=List.mem_map.1 h
  obtain ⟨_,h2⟩:=List.mem_filter.1 hi
  rw [Bool.and_eq_true] at h2
  have:=h2.2
  show on.getD (Int.ofNat i).toNat false=false
  rw [show (Int.ofNat i).toNat=i from rfl]
  simpa using this
theorem met_of {pg:Int} (hpg:1≤pg) {k:Nat} {l:List Blk} {b:Blk} (hb:b∈l) {y:Int} (h0:0≤y) (h1:b.at_≤y) (h2:y<b.at_+b.ch) (hk:(y / pg).toNat<k):(metP pg k l).getD (y / pg).toNat false=true:=by
  unfold metP
  rw [tab_getD false hk,List.any_eq_true]
  refine ⟨b,hb,?_⟩
  have e0:=Int.ediv_nonneg h0 (show 0≤pg by omega)
  have e1:(((y / pg).toNat:Nat):Int)=y / pg:=Int.toNat_of_nonneg e0
  have e2:=Int.mul_ediv_add_emod y pg
  have e3:=Int.emod_nonneg y (show pg≠0 by omega)
  have e4:=Int.emod_lt_of_pos y (show 0<pg by omega)
  rw [e1,Int.mul_comm]
  unfold over
  rw [decide_eq_true (by omega),decide_eq_true (by omega)];rfl
theorem these_of {pg a n y:Int} (hpg:1≤pg) (hn:1≤n) (ha:0≤a) (h1:a≤y) (h2:y<a+n):these (pagesP pg a n).1 (pagesP pg a n).2 (y / pg).toNat=true:=by
  have e0:=Int.ediv_nonneg (show 0≤y by omega) (show 0≤pg by omega)
  have e1:(((y / pg).toNat:Nat):Int)=y / pg:=Int.toNat_of_nonneg e0
  have e2:a / pg≤y / pg:=Int.ediv_le_ediv (by omega) h1
  have e3:y / pg≤(a+n-1) / pg:=Int.ediv_le_ediv (by omega) (by omega)
  unfold these pagesP
  rw [if_neg (by omega),e1]
  dsimp only
  rw [decide_eq_true (by omega),decide_eq_true (by omega)];rfl
structure Placed (m:Mod) (l:List Blk) (n asked a:Int) (m':Mod):Prop where
  c:m'.c=m.c
  bl:m'.bl=putB l ⟨a,n,asked⟩
  at_:0≤a∧a+n≤m.c.H
  free:freeB l a n=true
  keep:∀ b∈l,onB m b→∀ x,0≤x→x<b.ch→byteAt m' b.at_ x=byteAt m b.at_ x
  on1:∀ b∈l,onB m b→onB m' b
  on2:onB m' ⟨a,n,asked⟩
theorem Mod.Ok.page {m:Mod} (ok:m.Ok) {y:Int} (h0:0≤y) (h1:y<m.c.H):(y / m.c.Pg).toNat<m.on.length:=by
  have f:=ok.c.facts
  have h:=ok.on
  have h2:y / m.c.Pg<m.on.length:=Int.ediv_lt_of_lt_mul (by omega) (by omega)
  have h3:=Int.ediv_nonneg h0 (show 0≤m.c.Pg by omega)
  omega
theorem place_out {m:Mod} (ok:m.Ok) {l:List Blk} (hl:BlkIn m.c.H l) {n asked:Int} (hn:1≤n) (h:(placeM m l n asked).2.2=0) :
    Placed m l n asked (placeM m l n asked).2.1 (placeM m l n asked).1:=by
  have f:=ok.c.facts
  rcases placeM_cases m l (asked:=asked) hn (by omega) with ⟨_,e⟩ | e | ⟨j,on',fr,_,h0,h1,hf,ho,hc,e⟩
  · rw [e] at h;simp at h
  · rw [e] at h;simp at h
  · rw [e]
    dsimp only
    generalize (j:Int)*n=a at *
    have hfr:=(commitP_some hc).2
    have ion:∀ i,i<m.on.length→(allP m.on (pagesP m.c.Pg a n).1 (pagesP m.c.Pg a n).2).getD i false=true→(needP (metP m.c.Pg m.on.length l) (pagesP m.c.Pg a n).1 (pagesP m.c.Pg a n).2).getD i false=true→on'.getD i false=true:=by
      intro i hi h1 h2
      unfold commitP at hc
      split at hc
      · cases hc
      · injection hc with hc
        injection hc with hc _
        rw [← hc]
        split
        · rw [tab_getD false hi,h1,h2];rfl
        · exact h1
    have old:∀ b∈l,∀ y,b.at_≤y→y<b.at_+b.ch→m.on.getD (y / m.c.Pg).toNat false=true→on'.getD (y / m.c.Pg).toNat false=true:=by
      intro b hb y y1 y2 hy
      have ib:=hl b hb
      have hp:=ok.page (y:=y) (by omega) (by omega)
      refine ion _ hp ?_ ?_
      · unfold allP
        rw [tab_getD false hp,hy];rfl
      · unfold needP
        have hp2:(y / m.c.Pg).toNat<(metP m.c.Pg m.on.length l).length:=by unfold metP;rw [tab_len];exact hp
        rw [tab_getD false hp2,met_of (by omega) hb (by omega) y1 y2 hp];rfl
    refine ⟨rfl,rfl,⟨h0,h1⟩,hf,fun b hb hon x x0 x1=>?_,fun b hb hon y y1 y2=>old b hb y y1 y2 (hon y y1 y2),fun y y1 y2=>?_⟩
    · have ib:=hl b hb
      show (fr.foldl (fun mem p=>fillP mem m.c.Sd p m.c.Pg) m.mem).getD (b.at_+x).toNat 0=m.mem.getD (b.at_+x).toNat 0
      refine fills_getD _ _ _ _ _ fun hin=>?_
      have et:(((b.at_+x).toNat:Nat):Int)=b.at_+x:=Int.toNat_of_nonneg (by omega)
      rw [et,hfr] at hin
      have h5:=fresh_off hin
      rw [hon (b.at_+x) (by omega) (by omega)] at h5
      cases h5
    · dsimp only at y1 y2
      have hp:=ok.page (y:=y) (by omega) (by omega)
      have ht:=these_of (pg:=m.c.Pg) (a:=a) (n:=n) (y:=y) (by omega) hn h0 y1 y2
      show on'.getD (y / m.c.Pg).toNat false=true
      refine ion _ hp ?_ ?_
      · unfold allP
        rw [tab_getD false hp,ht,Bool.or_true]
      · unfold needP
        have hp2:(y / m.c.Pg).toNat<(metP m.c.Pg m.on.length l).length:=by unfold metP;rw [tab_len];exact hp
        rw [tab_getD false hp2,ht,Bool.or_true]
theorem Placed.mem {m m':Mod} {l:List Blk} {n asked a:Int} (p:Placed m l n asked a m') (hl:BlkIn m.c.H l) {mem:List Int} (h:∀ i:Nat,((i:Int)<a∨a+n≤(i:Int))→(i:Int)<m.c.H→mem.getD i 0=m'.mem.getD i 0):Placed m l n asked a { m' with mem:=mem }:=by
  refine ⟨p.c,p.bl,p.at_,p.free,fun b hb hon x x0 x1=>?_,p.on1,p.on2⟩
  have ib:=hl b hb
  have ap:=freeB_apart p.free b hb
  rw [← p.keep b hb hon x x0 x1]
  have et:(((b.at_+x).toNat:Nat):Int)=b.at_+x:=Int.toNat_of_nonneg (by omega)
  exact h _ (by rw [et];omega) (by rw [et];omega)
theorem Placed.inv {m m':Mod} {l:List Blk} {n asked a:Int} (p:Placed m l n asked a m') (ok:m'.Ok) (s:Srt l) (hl:BlkIn m.c.H l) (hon:∀ b∈l,onB m b) (hn:1≤n):Inv m':=by
  refine ⟨ok,?_,fun b hb=>?_⟩
  · rw [p.bl];exact s.put hn (fun b hb=>(hl b hb).2.1) p.free
  · rw [p.bl] at hb
    rcases (putB_mem _ _ _).1 hb with rfl | hb
    · exact p.on2
    · exact p.on1 b hb (hon b hb)
theorem zeroP_getD (mem:List Int) (a n:Int) (i:Nat):(zeroP mem a n).getD i 0=if a≤(i:Int)∧(i:Int)<a+n then 0 else mem.getD i 0:=by
  unfold zeroP
  by_cases hi:i<mem.length
  · rw [tab_getD 0 hi]
  · rw [List.getD_eq_getElem?_getD,List.getD_eq_getElem?_getD,List.getElem?_eq_none (by rw [tab_len];omega),List.getElem?_eq_none (by omega)];simp
theorem new_charge {c:Cf} {live s a:Int} (h:(newS c.G c.N c.M live s a).2=0):(newS c.G c.N c.M live s a).1=(c.charge s a).1:=by
  unfold newS at h ⊢
  unfold Cf.charge
  by_cases h1:(chargeS c.G c.N s a).2=0
  · rw [if_pos h1] at h ⊢
    by_cases h2:live+(chargeS c.G c.N s a).1>c.M
    · rw [if_pos h2] at h;simp at h
    · rw [if_neg h2]
  · rw [if_neg h1] at h;exact absurd h h1
theorem give_out {m:Mod} (i:Inv m) (o:OpV) (ho:o.k=1∨o.k=2∨o.k=3) (h:(giveM m o).2.err=0) :
    1≤chargeO m.c o∧(giveM m o).2 = ⟨0,(giveM m o).2.at_,0,0,0,0,0,0⟩∧(∃ asked,Placed m m.bl (chargeO m.c o) asked (giveM m o).2.at_ (giveM m o).1)∧(o.k=2→∀ x,0≤x→x<chargeO m.c o→byteAt (giveM m o).1 (giveM m o).2.at_ x=0):=by
  obtain ⟨g,l,ex⟩:=i.ok.c.exs
  have hr:((if o.k=2 then manyS m.c.G m.c.N m.c.M m.live o.n o.s else newS m.c.G m.c.N m.c.M m.live o.s (if o.k=3 then o.a else 1)).2=0→(if o.k=2 then manyS m.c.G m.c.N m.c.M m.live o.n o.s else newS m.c.G m.c.N m.c.M m.live o.s (if o.k=3 then o.a else 1)).1=chargeO m.c o∧1≤chargeO m.c o):=by
    intro h0
    have e:(if o.k=2 then manyS m.c.G m.c.N m.c.M m.live o.n o.s else newS m.c.G m.c.N m.c.M m.live o.s (if o.k=3 then o.a else 1)).1=chargeO m.c o:=by
      unfold chargeO
      by_cases h2:o.k=2
      · rw [if_pos h2] at h0 ⊢
        rw [if_pos h2]
        unfold manyS at h0 ⊢
        by_cases hp:(productS m.c.N o.n o.s).2=0
        · rw [if_pos hp] at h0 ⊢;exact new_charge h0
        · rw [if_neg hp] at h0;exact absurd h0 hp
      · rw [if_neg h2] at h0 ⊢
        rw [if_neg h2]
        by_cases h3:o.k=3
        · rw [if_pos h3] at h0 ⊢
          rw [if_pos h3];exact new_charge h0
        · rw [if_neg h3] at h0 ⊢
          rw [if_neg h3];exact new_charge h0
    refine ⟨e,?_⟩
    rw [← e]
    have cn:∀ r:Int×Int,(r.2≠0∧r.1=0)∨(r.2=0∧m.live+r.1≤m.c.M∧∃ k:Nat,k≤l∧r.1=((2 ^ (g+k):Nat):Int))→r.2=0→1≤r.1:=by
      rintro r (⟨h,_⟩ | ⟨_,_,k,_,e⟩) h0
      · exact absurd h0 h
      · have:=Nat.two_pow_pos (g+k);omega
    refine cn _ ?_ h0
    by_cases h2:o.k=2
    · rw [if_pos h2];exact charge_many ex _ _ _
    · rw [if_neg h2];exact charge_new ex _ _ _
  unfold giveM at h ⊢
  dsimp only at h ⊢
  generalize (if o.k=2 then manyS m.c.G m.c.N m.c.M m.live o.n o.s else newS m.c.G m.c.N m.c.M m.live o.s (if o.k=3 then o.a else 1))=r at h hr ⊢
  generalize (if o.k=2 then wrap64 (o.n*o.s) else o.s)=s at h ⊢
  by_cases h1:r.2=0
  · rw [if_pos h1] at h ⊢
    obtain ⟨e,hpos⟩:=hr h1
    rw [e] at h ⊢
    by_cases h2:(placeM m m.bl (chargeO m.c o) s).2.2=0
    · rw [if_pos h2]
      have pl:=place_out i.ok i.ok.bl (asked:=s) hpos h2
      refine ⟨hpos,rfl,⟨s,?_⟩,fun k2 x x0 x1=>?_⟩
      · by_cases k2:o.k=2
        · simp only [if_pos k2]
          refine pl.mem i.ok.bl fun j hj _=>?_
          rw [zeroP_getD,if_neg (by omega)]
        · simp only [if_neg k2];exact pl
      · simp only [if_pos k2]
        unfold byteAt
        dsimp only
        have et:((((placeM m m.bl (chargeO m.c o) s).2.1+x).toNat:Nat):Int)=(placeM m m.bl (chargeO m.c o) s).2.1+x:=Int.toNat_of_nonneg (by have:=pl.at_;omega)
        rw [zeroP_getD,if_pos (by omega)]
    · rw [if_neg h2] at h;exact absurd h h2
  · rw [if_neg h1] at h;exact absurd h h1
theorem splice_getD {q m:List Int} {p a c:Nat} (h1:p+c≤q.length) (h2:a+c≤m.length) (i:Nat) :
    (q.take p++(m.drop a).take c++q.drop (p+c)).getD i 0=if p≤i∧i<p+c then m.getD (a+(i-p)) 0 else q.getD i 0:=by
  have l1:(q.take p).length=p:=by rw [List.length_take];omega
  have l2:((m.drop a).take c).length=c:=by rw [List.length_take,List.length_drop];omega
  simp only [List.getD_eq_getElem?_getD]
  by_cases h3:i<p
  · rw [if_neg (by omega),List.append_assoc,List.getElem?_append_left (by omega),List.getElem?_take,if_pos h3]
  · by_cases h4:i<p+c
    · rw [if_pos ⟨by omega,h4⟩,List.getElem?_append_left (by rw [List.length_append];omega),List.getElem?_append_right (by omega),l1,List.getElem?_take,if_pos (by omega),List.getElem?_drop]
    · rw [if_neg (by omega),List.getElem?_append_right (by rw [List.length_append];omega),List.length_append,l1,l2,List.getElem?_drop,show p+c+(i-(p+c))=i by omega]
theorem realloc_out {m:Mod} (i:Inv m) (o:OpV) {A:Nat} (hA:A<m.bl.length) (h4:o.k=4) (h:(ofM m o A m.bl[A]).2.err=0) :
    1≤chargeO m.c o∧(ofM m o A m.bl[A]).2 = ⟨0,(ofM m o A m.bl[A]).2.at_,0,0,0,0,0,0⟩∧(∃ asked,Placed m (m.bl.take A++m.bl.drop (A+1)) (chargeO m.c o) asked (ofM m o A m.bl[A]).2.at_ (ofM m o A m.bl[A]).1) ∧
      ∀ x,0≤x→x<chargeO m.c o→x<m.bl[A].ch→byteAt (ofM m o A m.bl[A]).1 (ofM m o A m.bl[A]).2.at_ x=byteAt m m.bl[A].at_ x:=by
  obtain ⟨g,l,ex⟩:=i.ok.c.exs
  have f:=i.ok.c.facts
  have hb:=i.ok.bl _ (List.getElem_mem hA)
  have hrest:=chSum_rest hA
  have hin:=i.ok.bl.rest A
  have hrl:=chSum_len hin
  have hlive:=i.ok.live
  have hmem:=i.ok.mem
  have hr:(newS m.c.G m.c.N m.c.M (m.live-m.bl[A].ch) o.s 1).2=0→(newS m.c.G m.c.N m.c.M (m.live-m.bl[A].ch) o.s 1).1=chargeO m.c o∧1≤chargeO m.c o∧m.live-m.bl[A].ch+chargeO m.c o≤m.c.M:=by
    intro h0
    have e:(newS m.c.G m.c.N m.c.M (m.live-m.bl[A].ch) o.s 1).1=chargeO m.c o:=by
      unfold chargeO;rw [if_neg (by omega),if_neg (by omega)];exact new_charge h0
    refine ⟨e,?_⟩
    rw [← e]
    rcases charge_new ex (m.live-m.bl[A].ch) o.s 1 with ⟨h,_⟩ | ⟨_,h2,k,_,e⟩
    · exact absurd h0 h
    · have:=Nat.two_pow_pos (g+k);omega
  unfold ofM at h ⊢
  simp only [if_pos h4] at h ⊢
  generalize newS m.c.G m.c.N m.c.M (m.live-m.bl[A].ch) o.s 1=r at h hr ⊢
  by_cases h1:r.2=0
  · rw [if_pos h1] at h ⊢
    obtain ⟨e,hpos,hlim⟩:=hr h1
    rw [e] at h ⊢
    by_cases h2:(placeM m (m.bl.take A++m.bl.drop (A+1)) (chargeO m.c o) o.s).2.2=0
    · rw [if_pos h2]
      have pl:=place_out i.ok hin (asked:=o.s) hpos h2
      obtain ⟨y1,y2,_,_⟩:=placeM_ok i.ok (asked:=o.s) hpos hin (by omega) h2
      have ym:((placeM m (m.bl.take A++m.bl.drop (A+1)) (chargeO m.c o) o.s).1.mem.length:Int)=m.c.H:=y1.mem.trans (congrArg Cf.H y2)
      have hat:=pl.at_
      generalize placeM m (m.bl.take A++m.bl.drop (A+1)) (chargeO m.c o) o.s=q at *
      obtain ⟨p,hp⟩:∃ p:Nat,q.2.1=p:=⟨q.2.1.toNat,(Int.toNat_of_nonneg hat.1).symm⟩
      obtain ⟨a,ha⟩:∃ a:Nat,m.bl[A].at_=a:=⟨m.bl[A].at_.toNat,(Int.toNat_of_nonneg hb.1).symm⟩
      obtain ⟨c,hc⟩:∃ c:Nat,min (chargeO m.c o) m.bl[A].ch=c:=⟨(min (chargeO m.c o) m.bl[A].ch).toNat,(Int.toNat_of_nonneg (by omega)).symm⟩
      have emem:q.1.mem.take q.2.1.toNat++(m.mem.drop m.bl[A].at_.toNat).take (min (chargeO m.c o) m.bl[A].ch).toNat++q.1.mem.drop (q.2.1+min (chargeO m.c o) m.bl[A].ch).toNat=q.1.mem.take p++(m.mem.drop a).take c++q.1.mem.drop (p+c):=by
        rw [hp,ha,hc,Int.toNat_natCast,Int.toNat_natCast,Int.toNat_natCast,show ((p:Int)+(c:Int)).toNat=p+c by omega]
      rw [emem]
      have sp:=fun i=>splice_getD (q:=q.1.mem) (m:=m.mem) (p:=p) (a:=a) (c:=c) (by omega) (by omega) i
      refine ⟨hpos,rfl,⟨o.s,pl.mem hin fun j hj _=>?_⟩,fun x x0 x1 x2=>?_⟩
      · rw [sp,if_neg (by omega)]
      · unfold byteAt
        dsimp only
        rw [hp,ha,sp,if_pos (by omega)]
        congr 1
        omega
    · rw [if_neg h2] at h;exact absurd h h2
  · rw [if_neg h1] at h;exact absurd h h1
end Go.Proofs.D.S
/- Two models that are alike stay so,and tell the same of what is known. -/
set_option linter.unusedVariables false
namespace Go.Proofs.D.S
open Go Go.RowKit
theorem doM_cases (m:Mod) (o:OpV) :
    ((o.k=1∨o.k=2∨o.k=3)∧doM m o=giveM m o)∨(o.k=9∧doM m o=({ m with on:=trimP m.on (metP m.c.Pg m.on.length m.bl) },⟨0,0,goneP m.on (metP m.c.Pg m.on.length m.bl) m.on.length,0,0,0,0,0⟩)) ∨
    (o.k=10∧doM m o=(m,⟨0,0,0,0,m.live,m.peak,m.mark,cnt m.on⟩)) ∨
    ((o.k=4∨o.k=5∨o.k=6∨o.k=7∨o.k=8)∧∃ (A:Nat) (hA:A<m.bl.length),findB m.bl o.p=some A∧m.bl[A].at_=o.p∧doM m o=ofM m o A m.bl[A])∨(doM m o).2.err≠0:=by
  unfold doM
  by_cases h1:o.k=1∨o.k=2∨o.k=3
  · rw [if_pos h1];exact .inl ⟨h1,rfl⟩
  rw [if_neg h1]
  by_cases h9:o.k=9
  · rw [if_pos h9];exact .inr (.inl ⟨h9,rfl⟩)
  rw [if_neg h9]
  by_cases h10:o.k=10
  · rw [if_pos h10];exact .inr (.inr (.inl ⟨h10,rfl⟩))
  rw [if_neg h10]
  by_cases h4:o.k=4∨o.k=5∨o.k=6∨o.k=7∨o.k=8
  · rw [if_pos h4]
    cases hf:findB m.bl o.p with
    | none=>exact .inr (.inr (.inr (.inr (by show (8:Int)≠0;decide))))
    | some A =>
      obtain ⟨hA,ha⟩:=findB_lt hf
      refine .inr (.inr (.inr (.inl ⟨h4,A,hA,rfl,ha,?_⟩)))
      dsimp only
      rw [getD_lt _ hA]
  · rw [if_neg h4];exact .inr (.inr (.inr (.inr (by show (2:Int)≠0;decide))))
theorem ofM_cases (m:Mod) (o:OpV) (A:Nat) (b:Blk) (ho:o.k=5∨o.k=6∨o.k=7∨o.k=8) :
    (o.k=5∧ofM m o A b=({ m with bl:=m.bl.take A++m.bl.drop (A+1),live:=m.live-b.ch },errA 0))∨(o.k=6∧ofM m o A b=(m,⟨0,0,b.ch,0,0,0,0,0⟩)) ∨
    (o.k=7∧(0≤o.n∧o.n<b.ch)∧ofM m o A b=(m,⟨0,0,0,m.mem.getD (b.at_+o.n).toNat 0,0,0,0,0⟩)) ∨
    (o.k=8∧(0≤o.n∧o.n<b.ch)∧ofM m o A b=({ m with mem:=m.mem.set (b.at_+o.n).toNat o.b },errA 0))∨(ofM m o A b).2.err≠0:=by
  unfold ofM
  dsimp only
  rw [if_neg (by omega)]
  by_cases h5:o.k=5
  · rw [if_pos h5];exact .inl ⟨h5,rfl⟩
  rw [if_neg h5]
  by_cases h6:o.k=6
  · rw [if_pos h6];exact .inr (.inl ⟨h6,rfl⟩)
  rw [if_neg h6]
  by_cases hb:o.n<0∨o.n≥b.ch
  · rw [if_pos hb];exact .inr (.inr (.inr (.inr (by show (9:Int)≠0;decide))))
  rw [if_neg hb]
  by_cases h7:o.k=7
  · rw [if_pos h7];exact .inr (.inr (.inl ⟨h7,by omega,rfl⟩))
  · rw [if_neg h7];exact .inr (.inr (.inr (.inl ⟨by omega,by omega,rfl⟩)))
theorem mem_rest {l:List Blk} {A:Nat} {b:Blk} (h:b∈l.take A++l.drop (A+1)):b∈l:=by
  rcases List.mem_append.1 h with h | h
  · exact List.mem_of_mem_take h
  · exact List.mem_of_mem_drop h
theorem inv_trim {m:Mod} (i:Inv m) {o:OpV} (h:o.k=9):Inv (doM m o).1:=by
  have f:=i.ok.c.facts
  obtain ⟨okd,_⟩:=doM_ok i.ok o
  rcases doM_cases m o with ⟨h1,_⟩ | ⟨_,e⟩ | ⟨h1,_⟩ | ⟨h1,_⟩ | he
  · omega
  · rw [e] at okd ⊢
    refine ⟨okd,i.srt,fun b hb y y1 y2=>?_⟩
    have ib:=i.ok.bl b hb
    have hp:=i.ok.page (y:=y) (by omega) (by omega)
    show (trimP m.on (metP m.c.Pg m.on.length m.bl)).getD (y / m.c.Pg).toNat false=true
    unfold trimP
    rw [tab_getD false hp,i.on b hb y y1 y2,met_of (by omega) hb (by omega) y1 y2 hp];rfl
  · omega
  · omega
  · rw [doM_fail m o he];exact i
theorem inv_do {m:Mod} (i:Inv m) (o:OpV):Inv (doM m o).1:=by
  have f:=i.ok.c.facts
  by_cases hne:(doM m o).2.err≠0
  · rw [doM_fail m o hne];exact i
  have he:(doM m o).2.err=0:=Decidable.not_not.1 hne
  obtain ⟨okd,hcd⟩:=doM_ok i.ok o
  rcases doM_cases m o with ⟨h1,e⟩ | ⟨h9,e⟩ | ⟨_,e⟩ | ⟨h4,A,hA,hf,ha,e⟩ | h
  · rw [e] at he okd ⊢
    obtain ⟨g1,_,⟨_,pl⟩,_⟩:=give_out i o h1 he
    exact pl.inv okd i.srt i.ok.bl i.on g1
  · exact inv_trim i h9
  · rw [e];exact i
  · rw [e] at he okd ⊢
    by_cases k4:o.k=4
    · obtain ⟨g1,_,⟨_,pl⟩,_⟩:=realloc_out i o hA k4 he
      exact pl.inv okd (i.srt.rest A) (i.ok.bl.rest A) (fun b hb=>i.on b (mem_rest hb)) g1
    · rcases ofM_cases m o A m.bl[A] (by omega) with ⟨_,e⟩ | ⟨_,e⟩ | ⟨_,_,e⟩ | ⟨_,_,e⟩ | h
      · rw [e] at okd ⊢;exact ⟨okd,i.srt.rest A,fun b hb=>i.on b (mem_rest hb)⟩
      · rw [e];exact i
      · rw [e];exact i
      · rw [e] at okd ⊢;exact ⟨okd,i.srt,i.on⟩
      · exact absurd he h
  · exact absurd he h
def KOk (m1 m2:Mod) (x:Int×PB):Prop:=∃ b∈m1.bl,b.at_=x.1∧b.ch=x.2.ch∧x.2.no≤x.2.ch∧(∀ n∈x.2.tl,n<x.2.ch)∧∀ n,0≤n→x.2.knows n=true→byteAt m1 x.1 n=byteAt m2 x.1 n
theorem knows_lt {b:PB} {n:Int} (h1:b.no≤b.ch) (h2:∀ n∈b.tl,n<b.ch) (h:b.knows n=true):n<b.ch:=by
  unfold PB.knows at h
  rw [Bool.or_eq_true,decide_eq_true_eq] at h
  rcases h with h | h
  · omega
  · exact h2 n (List.contains_iff_mem.1 h)
structure Alike (m1 m2:Mod) (P:List (Int×PB)):Prop where
  s:Sim m1 m2
  i1:Inv m1
  i2:Inv m2
  nd:NoDup P
  k:∀ x∈P,KOk m1 m2 x
theorem Sim.bl {m1 m2:Mod} (s:Sim m1 m2):m2.bl=m1.bl:=(congrArg Mod.bl s.1:m2.bl=(withS m1 m2.c.Sd m2.on m2.mem).bl).trans rfl
theorem Sim.c {m1 m2:Mod} (s:Sim m1 m2):m2.c = { m1.c with Sd:=m2.c.Sd }:=(congrArg Mod.c s.1:m2.c=(withS m1 m2.c.Sd m2.on m2.mem).c).trans rfl
theorem Sim.charge {m1 m2:Mod} (s:Sim m1 m2) (o:OpV):chargeO m2.c o=chargeO m1.c o:=by rw [s.c];rfl
theorem KOk.keep {m1 m2 m1' m2':Mod} {x:Int×PB} (h:KOk m1 m2 x) (hb:∀ b∈m1.bl,b.at_=x.1→b∈m1'.bl∧(∀ n,0≤n→n<b.ch→byteAt m1' b.at_ n=byteAt m1 b.at_ n)∧(∀ n,0≤n→n<b.ch→byteAt m2' b.at_ n=byteAt m2 b.at_ n)):KOk m1' m2' x:=by
  obtain ⟨b,b1,b2,b3,b4,b5,b6⟩:=h
  obtain ⟨c1,c2,c3⟩:=hb b b1 b2
  refine ⟨b,c1,b2,b3,b4,b5,fun n n0 hn=>?_⟩
  have hl:=knows_lt b4 b5 hn
  have e1:=c2 n n0 (by omega)
  have e2:=c3 n n0 (by omega)
  rw [b2] at e1 e2
  rw [e1,e2,b6 n n0 hn]
theorem set_getD {l:List Int} {i j:Nat} {v:Int} (h:i<l.length):(l.set i v).getD j 0=if j=i then v else l.getD j 0:=by
  rw [List.getD_eq_getElem?_getD,List.getD_eq_getElem?_getD]
  by_cases e:j=i
  · subst e;rw [if_pos rfl,List.getElem?_set_self h];rfl
  · rw [if_neg e,List.getElem?_set_ne (fun x=>e x.symm)]
end Go.Proofs.D.S
/- Rows that a call is not told of: it does the same beside them,and they stay. -/
set_option linter.unusedVariables false
namespace Go.Proofs.D
open Go
structure Ext (Y:Nat→Option Obj) (G H:GH):Prop where
  nx:H.next=G.next
  out:∀ id,Y id=none→H.get id=G.get id
  inn:∀ id o,Y id=some o→G.get id=none∧H.get id=some o∧id<G.next
def ExtC (Y:Nat→Option Obj) (C:Call):Prop:=∀ f args G vs G' H,C f args G=some (vs,G')→Ext Y G H→∃ H',C f args H=some (vs,H')∧Ext Y G' H'
section
variable {Y:Nat→Option Obj} {C:Call} {tm tm':TM} {G G' H:GH}
theorem Ext.get (e:Ext Y G H) {id:Nat} {o:Obj} (h:G.get id=some o):Y id=none∧H.get id=some o:=by
  cases hy:Y id with
  | none=>exact ⟨rfl,(e.out id hy).trans h⟩
  | some x=>rw [(e.inn id x hy).1] at h;cases h
theorem Ext.alloc (e:Ext Y G H) (o:Obj):Ext Y (G.alloc o) (H.alloc o):=by
  refine ⟨by rw [GH.next_alloc,GH.next_alloc,e.nx],fun id hy=>?_,fun id x hy=>?_⟩
  · rw [GH.get_alloc,GH.get_alloc,e.nx,e.out id hy]
  · obtain ⟨a,b,c⟩:=e.inn id x hy
    rw [GH.get_alloc,GH.get_alloc,e.nx,if_neg (by omega),if_neg (by omega),GH.next_alloc]
    exact ⟨a,b,by omega⟩
theorem Ext.set (e:Ext Y G H) {id:Nat} {o:Obj} (h:G.get id=some o) (o':Option Obj):Ext Y (G.set id o') (H.set id o'):=by
  have hn:=(e.get h).1
  refine ⟨by rw [GH.next_set,GH.next_set,e.nx],fun j hy=>?_,fun j x hy=>?_⟩
  · rw [GH.get_set,GH.get_set,e.out j hy]
  · obtain ⟨a,b,c⟩:=e.inn j x hy
    have:j≠id:=fun k=>by rw [k,hn] at hy;cases hy
    rw [GH.get_set,GH.get_set,if_neg this,if_neg this,GH.next_set]
    exact ⟨a,b,c⟩
theorem Ext.row (e:Ext Y G H) {id:Nat} {cs:List Cell} (h:G.row id=some cs):H.row id=some cs:=by
  unfold GH.row at h ⊢
  cases hg:G.get id with
  | none=>rw [hg] at h;cases h
  | some o=>rw [hg] at h;rw [(e.get hg).2];exact h
theorem Ext.own (e:Ext Y G H) {id:Nat} {cs:List Cell} (h:G.own id=some cs):H.own id=some cs:=by
  have:=(e.get (own_get h)).2
  unfold GH.own;rw [this]
theorem Ext.ents (e:Ext Y G H) {ks:VS} {id:Nat} {es:List (V1×V1)} (h:G.ents ks id=some es):H.ents ks id=some es:=by
  unfold GH.ents at h ⊢
  cases hg:G.get id with
  | none=>rw [hg] at h;cases h
  | some o=>rw [hg] at h;rw [(e.get hg).2];exact h
theorem Ext.ents0 (e:Ext Y G H) {ks:VS} {id:Nat} {es:List (V1×V1)} (h:G.ents0 ks id=some es):H.ents0 ks id=some es:=by
  unfold GH.ents0 at h ⊢
  split at h
  · rename_i h0;rw [if_pos h0];exact h
  · rename_i h0;rw [if_neg h0];exact e.ents h
theorem Ext.ld (e:Ext Y G H) {id off:Nat} {c:Cell} (h:G.ld id off=some c):H.ld id off=some c:=by
  unfold GH.ld at h ⊢
  obtain ⟨cs,h1,h2⟩:=Option.bind_eq_some_iff.1 h
  rw [e.row h1];exact h2
theorem Ext.lds (e:Ext Y G H) {id off n:Nat} {cs:List Cell} (h:G.lds id off n=some cs):H.lds id off n=some cs:=by
  unfold GH.lds at h ⊢
  obtain ⟨cs',h1,h2⟩:=Option.bind_eq_some_iff.1 h
  rw [e.row h1];exact h2
theorem Ext.sts (e:Ext Y G H) {id off:Nat} {new:List Cell} (h:G.sts id off new=some G'):∃ H',H.sts id off new=some H'∧Ext Y G' H':=by
  unfold GH.sts at h ⊢
  obtain ⟨cs,h1,h2⟩:=Option.bind_eq_some_iff.1 h
  rw [e.own h1,Option.bind_some]
  split at h2
  · rename_i hl
    cases h2
    rw [if_pos hl]
    exact ⟨_,rfl,e.set (own_get h1) _⟩
  · cases h2
theorem Ext.app (e:Ext Y G H) {id off len es m:Nat} {new:List Cell} {i o:Nat} (h:G.app id off len es m new=some (i,o,G')):∃ H',H.app id off len es m new=some (i,o,H')∧Ext Y G' H':=by
  unfold GH.app at h ⊢
  split at h
  · rename_i h0;cases h;rw [if_pos h0];exact ⟨_,rfl,e⟩
  · rename_i h0
    rw [if_neg h0]
    split at h
    · rename_i h1;cases h;rw [if_pos h1,e.nx];exact ⟨_,rfl,e.alloc _⟩
    · rename_i h1
      rw [if_neg h1]
      obtain ⟨cs,hcs,h⟩:=Option.bind_eq_some_iff.1 h
      rw [e.own hcs,Option.bind_some]
      split at h
      · rename_i h2;cases h;rw [if_pos h2];simp only [e.nx];exact ⟨_,rfl,(e.set (own_get hcs) none).alloc _⟩
      · rename_i h2
        rw [if_neg h2]
        split at h
        · rename_i h3;cases h;rw [if_pos h3];exact ⟨_,rfl,e.set (own_get hcs) _⟩
        · cases h
theorem go_ind {R:Type} (K:TV→Option R) (g:Int→Int→Int):∀ (xs:List Src) (a:Int),opK.go tm G (fun v _=>K v) xs a g=opK.go tm H (fun v _=>K v) xs a g
  | [],_=>rfl
  | x::xs,a=>by simp only [opK.go,go_ind K g xs]
theorem opK_ind {R:Type} (K:TV→Option R) {op:DOp} (h:op.kl = .pure∨op.kl = .loc):opK C tm G (fun v _=>K v) op=opK C tm H (fun v _=>K v) op:=by
  cases op
  all_goals first | rfl | (simp [DOp.kl] at h;done) | skip
  case mx x xs=>simp only [opK];congr;funext a;exact go_ind K mx2 xs a
  case mn x xs=>simp only [opK];congr;funext a;exact go_ind K mn2 xs a
theorem opD_ind {op:DOp} {u:TV} (hk:op.kl = .pure∨op.kl = .loc) (h:opD C tm G op=some (u,G')):G' = G∧opD C tm H op=some (u,H):=by
  have h1:op.kl≠.al:=by rcases hk with e | e <;> rw [e] <;> simp
  have h2:op.kl≠.act:=by rcases hk with e | e <;> rw [e] <;> simp
  have e1:=opK_ind (C:=C) (tm:=tm) (G:=G) (H:=H) some hk
  rw [opK_eq,opK_eq,h] at e1
  refine ⟨opD_same h1 h2 h,?_⟩
  cases hH:opD C tm H op with
  | none=>rw [hH] at e1;simp at e1
  | some p =>
    obtain ⟨v,H2⟩:=p
    rw [hH] at e1
    simp at e1
    rw [opD_same h1 h2 hH,e1]
theorem shK_e {R:Type} (s:Sh) (x:Option Cell) (K:Cell→Option R):shK s x K=(shK s x some).bind K:=by rw [shK_bind];rfl
theorem shsK_e {R:Type} (f:Nat→Option Cell) (ss:List Sh) (i:Nat) (K:List Cell→Option R):shsK f K ss i=(shsK f some ss i).bind K:=by rw [shsK_bind];rfl
theorem vsK_e {R:Type} (s:VS) (x:Option V1) (K:V1→Option R):vsK s x K=(vsK s x some).bind K:=by rw [vsK_bind];rfl
theorem sh_some {s:Sh} {x:Option Cell} {c:Cell} (h:shK s x some=some c):∃ d,x=some d:=by
  cases x with
  | some d=>exact ⟨d,rfl⟩
  | none=>cases s <;> simp [shK] at h
theorem shs_ext {f g:Nat→Option Cell} (hfg:∀ i c,f i=some c→g i=some c):∀ (ss:List Sh) (i:Nat) (r:List Cell),shsK f some ss i=some r→shsK g some ss i=some r:=by
  intro ss
  induction ss with
  | nil=>intro i r h;exact h
  | cons s ss ih =>
    intro i r h
    simp only [shsK] at h ⊢
    rw [shK_e] at h ⊢
    obtain ⟨c,h1,h2⟩:=Option.bind_eq_some_iff.1 h
    obtain ⟨d,hd⟩:=sh_some h1
    rw [hfg i d hd,← hd,h1,Option.bind_some]
    rw [shsK_e] at h2 ⊢
    obtain ⟨cs,h3,h4⟩:=Option.bind_eq_some_iff.1 h2
    rw [ih _ _ h3];exact h4
theorem res_heap {out:List V1} {G2 H2:GH} {u:TV} {rs:List VS}
    (h:(match rs with | [s]=>vsK s (out[0]?) fun v=>some (TV.v v,G2) | rs=>resK (fun i=>out[i]?) (fun vs=>some (TV.tup vs,G2)) rs 0)=some (u,G')) :
    G' = G2∧(match (generalizing:=false) rs with | [s]=>vsK s (out[0]?) fun v=>some (TV.v v,H2) | rs=>resK (fun i=>out[i]?) (fun vs=>some (TV.tup vs,H2)) rs 0)=some (u,H2):=by
  have e:∀ Q:GH,(match rs with | [s]=>vsK s (out[0]?) fun v=>some (TV.v v,Q) | rs=>resK (fun i=>out[i]?) (fun vs=>some (TV.tup vs,Q)) rs 0) =
      (match rs with | [s]=>vsK s (out[0]?) fun v=>some (TV.v v) | rs=>resK (fun i=>out[i]?) (fun vs=>some (TV.tup vs)) rs 0).bind fun t=>some (t,Q):=by
    intro Q
    split <;> simp only [vsK_bind,resK_bind,Option.bind_some]
  rw [e] at h ⊢
  obtain ⟨t,ht,h⟩:=Option.bind_eq_some_iff.1 h
  simp only [Option.some.injEq,Prod.mk.injEq] at h
  rw [ht,Option.bind_some,h.1]
  exact ⟨h.2.symm,rfl⟩
theorem opD_ext (hC:ExtC Y C) {op:DOp} {u:TV} (h:opD C tm G op=some (u,G')) (e:Ext Y G H):∃ H',opD C tm H op=some (u,H')∧Ext Y G' H':=by
  by_cases hk:op.kl = .pure∨op.kl = .loc
  · obtain ⟨h1,h2⟩:=opD_ind (H:=H) hk h
    subst h1
    exact ⟨H,h2,e⟩
  have nx:=e.nx
  cases op
  all_goals first | (exfalso;apply hk;simp [DOp.kl];done) | skip
  all_goals simp only [opD,opK] at h ⊢
  case newz cs=>simp at h;obtain ⟨rfl,rfl⟩:=h;exact ⟨_,by rw [nx],e.alloc _⟩
  case newv x n =>
    obtain ⟨v,h1,h⟩:=Option.bind_eq_some_iff.1 h
    obtain ⟨h2,h⟩:=chk_some h
    simp at h;obtain ⟨rfl,rfl⟩:=h
    exact ⟨_,by rw [h1,Option.bind_some,h2,nx];rfl,e.alloc _⟩
  case bslice len es zero ps =>
    obtain ⟨v,h1,h⟩:=Option.bind_eq_some_iff.1 h
    simp at h;obtain ⟨rfl,rfl⟩:=h
    exact ⟨_,by rw [h1,Option.bind_some,nx],e.alloc _⟩
  case ldG a s =>
    split at h
    · rename_i id off ha
      try rw [ha]
      try simp only
      cases s with
      | c s =>
        simp only at h ⊢
        rw [shK_e] at h ⊢
        obtain ⟨c,h1,h2⟩:=Option.bind_eq_some_iff.1 h
        obtain ⟨d,hd⟩:=sh_some h1
        rw [e.ld hd,← hd,h1]
        simp only [Option.some.injEq,Prod.mk.injEq] at h2
        obtain ⟨rfl,rfl⟩:=h2
        exact ⟨H,rfl,e⟩
      | agg ss =>
        simp only at h ⊢
        rw [shsK_e] at h ⊢
        obtain ⟨cs,h1,h2⟩:=Option.bind_eq_some_iff.1 h
        rw [shs_ext (fun i c hc=>e.ld hc) _ _ _ h1]
        simp only [Option.some.injEq,Prod.mk.injEq] at h2
        obtain ⟨rfl,rfl⟩:=h2
        exact ⟨H,rfl,e⟩
    · cases h
  case stG a x n =>
    split at h
    · rename_i id off ha
      try rw [ha]
      try simp only
      obtain ⟨v,h1,h⟩:=Option.bind_eq_some_iff.1 h
      obtain ⟨h2,h⟩:=chk_some h
      obtain ⟨G2,h3,h⟩:=Option.bind_eq_some_iff.1 h
      simp at h;obtain ⟨rfl,rfl⟩:=h
      obtain ⟨H2,h4,e2⟩:=e.sts h3
      exact ⟨H2,by rw [h1,Option.bind_some,h2,h4];rfl,e2⟩
    · cases h
  case mkslice n es b zero =>
    simp only [natK] at h ⊢
    obtain ⟨v,h1,h⟩:=Option.bind_eq_some_iff.1 h
    obtain ⟨h2,h⟩:=guardK_some h
    simp at h;obtain ⟨rfl,rfl⟩:=h
    exact ⟨_,by rw [h1,Option.bind_some,h2,nx];rfl,e.alloc _⟩
  case app x y es bytes =>
    simp only [sK] at h ⊢
    obtain ⟨p,h1,h⟩:=Option.bind_eq_some_iff.1 h
    obtain ⟨q,h2,h⟩:=Option.bind_eq_some_iff.1 h
    obtain ⟨new,h3,h⟩:=Option.bind_eq_some_iff.1 h
    obtain ⟨h4,h⟩:=guardK_some h
    obtain ⟨⟨i,o,G2⟩,h5,h⟩:=Option.bind_eq_some_iff.1 h
    simp at h;obtain ⟨rfl,rfl⟩:=h
    obtain ⟨H2,h6,e2⟩:=e.app h5
    refine ⟨H2,?_,e2⟩
    have h3':(if q.2.2=0 then some [] else H.lds q.1 q.2.1 (q.2.2*es))=some new:=by
      split at h3
      · rename_i h0;rw [if_pos h0];exact h3
      · rename_i h0;rw [if_neg h0];exact e.lds h3
    rw [h1,Option.bind_some,h2,Option.bind_some,h3',Option.bind_some,h4,h6];rfl
  case copy x y es =>
    simp only [sK] at h ⊢
    obtain ⟨p,h1,h⟩:=Option.bind_eq_some_iff.1 h
    obtain ⟨q,h2,h⟩:=Option.bind_eq_some_iff.1 h
    rw [h1,Option.bind_some,h2,Option.bind_some]
    split at h
    · rename_i h0
      simp at h;obtain ⟨rfl,rfl⟩:=h
      rw [if_pos h0];exact ⟨H,rfl,e⟩
    · rename_i h0
      obtain ⟨new,h3,h⟩:=Option.bind_eq_some_iff.1 h
      obtain ⟨G2,h4,h⟩:=Option.bind_eq_some_iff.1 h
      simp only [Option.some.injEq,Prod.mk.injEq] at h
      obtain ⟨rfl,rfl⟩:=h
      obtain ⟨H2,h5,e2⟩:=e.sts h4
      rw [if_neg h0,e.lds h3,Option.bind_some,h5]
      exact ⟨H2,rfl,e2⟩
  case clear x zero =>
    simp only [sK] at h ⊢
    obtain ⟨p,h1,h⟩:=Option.bind_eq_some_iff.1 h
    rw [h1,Option.bind_some]
    split at h
    · rename_i h0
      simp at h;obtain ⟨rfl,rfl⟩:=h
      rw [if_pos h0];exact ⟨H,rfl,e⟩
    · rename_i h0
      obtain ⟨G2,h4,h⟩:=Option.bind_eq_some_iff.1 h
      simp at h;obtain ⟨rfl,rfl⟩:=h
      obtain ⟨H2,h5,e2⟩:=e.sts h4
      rw [if_neg h0,h5]
      exact ⟨H2,rfl,e2⟩
  case mkmap ks=>simp at h;obtain ⟨rfl,rfl⟩:=h;exact ⟨_,by rw [nx],e.alloc _⟩
  case lkup ks m key zero s b =>
    obtain ⟨m1,h1,h⟩:=Option.bind_eq_some_iff.1 h
    obtain ⟨k1,h2,h⟩:=Option.bind_eq_some_iff.1 h
    obtain ⟨h3,h⟩:=chk_some h
    obtain ⟨es,h4,h⟩:=Option.bind_eq_some_iff.1 h
    rw [h1,Option.bind_some,h2,Option.bind_some,h3]
    simp only [chk]
    rw [e.ents0 h4,Option.bind_some]
    cases b <;> simp only at h ⊢ <;>
    · rw [vsK_e] at h ⊢
      obtain ⟨v,h5,h⟩:=Option.bind_eq_some_iff.1 h
      rw [h5]
      simp only [Option.some.injEq,Prod.mk.injEq] at h
      obtain ⟨rfl,rfl⟩:=h
      exact ⟨H,rfl,e⟩
  case mupd ks m key x =>
    obtain ⟨m1,h1,h⟩:=Option.bind_eq_some_iff.1 h
    obtain ⟨k1,h2,h⟩:=Option.bind_eq_some_iff.1 h
    obtain ⟨x1,h2',h⟩:=Option.bind_eq_some_iff.1 h
    obtain ⟨h3,h⟩:=chk_some h
    obtain ⟨es,h4,h⟩:=Option.bind_eq_some_iff.1 h
    simp at h;obtain ⟨rfl,rfl⟩:=h
    obtain ⟨_,h5⟩:=ents_get h4
    rw [h1,Option.bind_some,h2,Option.bind_some,h2',Option.bind_some,h3]
    simp only [chk]
    rw [e.ents h4,Option.bind_some]
    exact ⟨_,rfl,e.set h5 _⟩
  case del ks m key =>
    obtain ⟨m1,h1,h⟩:=Option.bind_eq_some_iff.1 h
    obtain ⟨k1,h2,h⟩:=Option.bind_eq_some_iff.1 h
    obtain ⟨h3,h⟩:=chk_some h
    obtain ⟨es,h4,h⟩:=Option.bind_eq_some_iff.1 h
    simp at h;obtain ⟨rfl,rfl⟩:=h
    obtain ⟨_,h5⟩:=ents_get h4
    rw [h1,Option.bind_some,h2,Option.bind_some,h3]
    simp only [chk]
    rw [e.ents h4,Option.bind_some]
    exact ⟨_,rfl,e.set h5 _⟩
  case mlen ks m =>
    obtain ⟨m1,h1,h⟩:=Option.bind_eq_some_iff.1 h
    obtain ⟨es,h4,h⟩:=Option.bind_eq_some_iff.1 h
    simp only [Option.some.injEq,Prod.mk.injEq] at h
    obtain ⟨rfl,rfl⟩:=h
    rw [h1,Option.bind_some,e.ents0 h4]
    exact ⟨H,rfl,e⟩
  case call f args rs =>
    obtain ⟨vs,h1,h⟩:=Option.bind_eq_some_iff.1 h
    obtain ⟨⟨out,G2⟩,hc,h⟩:=Option.bind_eq_some_iff.1 h
    obtain ⟨H2,h2,e2⟩:=hC _ _ _ _ _ _ hc e
    rw [h1,Option.bind_some,h2,Option.bind_some]
    obtain ⟨h3,h4⟩:=res_heap (H2:=H2) h
    subst h3
    exact ⟨H2,h4,e2⟩
  case callT x args rs =>
    obtain ⟨f,h0,h⟩:=Option.bind_eq_some_iff.1 h
    obtain ⟨vs,h1,h⟩:=Option.bind_eq_some_iff.1 h
    obtain ⟨⟨out,G2⟩,hc,h⟩:=Option.bind_eq_some_iff.1 h
    obtain ⟨h5,h⟩:=chk_some h
    obtain ⟨H2,h2,e2⟩:=hC _ _ _ _ _ _ hc e
    rw [h0,Option.bind_some,h1,Option.bind_some,h2,Option.bind_some,h5]
    simp only [chk]
    obtain ⟨h3,h4⟩:=res_heap (H2:=H2) h
    subst h3
    exact ⟨H2,h4,e2⟩
  case sbytes x =>
    obtain ⟨l,h1,h⟩:=Option.bind_eq_some_iff.1 h
    simp only [Option.some.injEq,Prod.mk.injEq] at h;obtain ⟨rfl,rfl⟩:=h
    exact ⟨_,by rw [h1,Option.bind_some,nx],e.alloc _⟩
  case reG d a s =>
    split at h
    · rename_i id off v ha hd
      try rw [ha,hd]
      try simp only
      cases s with
      | c s =>
        simp only at h ⊢
        rw [shK_e] at h ⊢
        obtain ⟨c,h1,h2⟩:=Option.bind_eq_some_iff.1 h
        obtain ⟨d,hd⟩:=sh_some h1
        obtain ⟨h3,h2⟩:=guardK_some h2
        rw [e.ld hd,← hd,h1,Option.bind_some,h3]
        simp at h2
        obtain ⟨rfl,rfl⟩:=h2
        exact ⟨H,rfl,e⟩
      | agg ss =>
        simp only at h ⊢
        rw [shsK_e] at h ⊢
        obtain ⟨cs,h1,h2⟩:=Option.bind_eq_some_iff.1 h
        obtain ⟨h3,h2⟩:=guardK_some h2
        rw [shs_ext (fun i c hc=>e.ld hc) _ _ _ h1,Option.bind_some,h3]
        simp at h2
        obtain ⟨rfl,rfl⟩:=h2
        exact ⟨H,rfl,e⟩
    · cases h
  case reK d ks m key zero s b =>
    obtain ⟨m1,h1,h⟩:=Option.bind_eq_some_iff.1 h
    obtain ⟨k1,h2,h⟩:=Option.bind_eq_some_iff.1 h
    obtain ⟨h3,h⟩:=chk_some h
    obtain ⟨es,h4,h⟩:=Option.bind_eq_some_iff.1 h
    rw [h1,Option.bind_some,h2,Option.bind_some,h3]
    simp only [chk]
    rw [e.ents0 h4,Option.bind_some]
    split at h
    · rename_i w b' hd
      try rw [hd]
      try simp only
      rw [vsK_e] at h ⊢
      obtain ⟨v,h5,h⟩:=Option.bind_eq_some_iff.1 h
      obtain ⟨h6,h⟩:=guardK_some h
      rw [h5,Option.bind_some,h6]
      simp at h
      obtain ⟨rfl,rfl⟩:=h
      exact ⟨H,rfl,e⟩
    · rename_i w hd
      try rw [hd]
      try simp only
      rw [vsK_e] at h ⊢
      obtain ⟨v,h5,h⟩:=Option.bind_eq_some_iff.1 h
      obtain ⟨h6,h⟩:=guardK_some h
      rw [h5,Option.bind_some,h6]
      simp at h
      obtain ⟨rfl,rfl⟩:=h
      exact ⟨H,rfl,e⟩
    · cases h
theorem goD_ext (hC:ExtC Y C) {o:DO} (h:goD C o tm G=some (tm',G')) (e:Ext Y G H):∃ H',goD C o tm H=some (tm',H')∧Ext Y G' H':=by
  unfold goD at h ⊢
  split at h
  · rename_i hl
    try rw [hl]
    simp at h
    obtain ⟨x,hx,rfl,rfl⟩:=h
    exact ⟨H,by simp [hx],e⟩
  · rename_i hl
    try rw [hl]
    obtain ⟨⟨x,G2⟩,hx,h⟩:=Option.map_eq_some_iff.1 h
    cases h
    obtain ⟨H2,h2,e2⟩:=opD_ext hC hx e
    exact ⟨H2,by simp [h2],e2⟩
theorem stepD_ext (hC:ExtC Y C) {o:DO} (h:stepD C o tm G=some (tm',G')) (e:Ext Y G H):∃ H',stepD C o tm H=some (tm',H')∧Ext Y G' H':=by
  unfold stepD at h ⊢
  cases hg:o.grd with
  | none=>rw [hg] at h;exact goD_ext hC h e
  | some p =>
    obtain ⟨g,want⟩:=p
    rw [hg] at h
    simp only at h ⊢
    split at h
    · rename_i b hb
      try rw [hb]
      try simp only
      split at h
      · rename_i hw;rw [if_pos hw];exact goD_ext hC h e
      · rename_i hw;rw [if_neg hw];simp at h;obtain ⟨rfl,rfl⟩:=h;exact ⟨H,rfl,e⟩
    · rename_i hb;try rw [hb]
      simp at h;obtain ⟨rfl,rfl⟩:=h;exact ⟨H,rfl,e⟩
    · cases h
theorem opsD_ext (hC:ExtC Y C):∀ (os:List DO) (tm:TM) (G H:GH) (tm':TM) (G':GH),opsD C os tm G=some (tm',G')→Ext Y G H→∃ H',opsD C os tm H=some (tm',H')∧Ext Y G' H'
  | [],tm,G,H,tm',G',h,e=>by simp [opsD] at h;obtain ⟨rfl,rfl⟩:=h;exact ⟨H,rfl,e⟩
  | o::os,tm,G,H,tm',G',h,e=>by
    simp only [opsD] at h ⊢
    obtain ⟨⟨tm1,G1⟩,h1,h2⟩:=Option.bind_eq_some_iff.1 h
    obtain ⟨H1,h3,e1⟩:=stepD_ext hC h1 e
    rw [h3,Option.bind_some]
    exact opsD_ext hC os _ _ _ _ _ h2 e1
def ExtL (Y:Nat→Option Obj) (lp:List Nat→DCode→TM→GH→Option Out):Prop:=∀ keep b tm G H x tm' G',lp keep b tm G=some (x,tm',G')→Ext Y G H→∃ H',lp keep b tm H=some (x,tm',H')∧Ext Y G' H'
theorem exD_ext (hC:ExtC Y C) {lp:List Nat→DCode→TM→GH→Option Out} (hl:ExtL Y lp):∀ (d:DCode) (tm:TM) (G H:GH) (x:DX) (tm':TM) (G':GH),exD C lp d tm G=some (x,tm',G')→Ext Y G H→∃ H',exD C lp d tm H=some (x,tm',H')∧Ext Y G' H':=by
  intro d
  induction d with
  | skip=>intro tm G H x tm' G' h e;simp [exD] at h;obtain ⟨rfl,rfl,rfl⟩:=h;exact ⟨H,rfl,e⟩
  | region ops =>
    intro tm G H x tm' G' h e;simp only [exD] at h ⊢
    obtain ⟨⟨t1,G1⟩,h1,h2⟩:=Option.map_eq_some_iff.1 h
    cases h2
    obtain ⟨H1,h3,e1⟩:=opsD_ext hC _ _ _ _ _ _ h1 e
    exact ⟨H1,by rw [h3];rfl,e1⟩
  | seq c d ihc ihd =>
    intro tm G H x tm' G' h e;simp only [exD] at h ⊢
    obtain ⟨⟨y,tm1,G1⟩,h1,h2⟩:=Option.bind_eq_some_iff.1 h
    obtain ⟨H1,h3,e1⟩:=ihc _ _ _ _ _ _ h1 e
    rw [h3,Option.bind_some]
    cases y with
    | normal=>exact ihd _ _ _ _ _ _ h2 e1
    | exit id=>simp at h2;obtain ⟨rfl,rfl,rfl⟩:=h2;exact ⟨H1,rfl,e1⟩
    | ret=>simp at h2;obtain ⟨rfl,rfl,rfl⟩:=h2;exact ⟨H1,rfl,e1⟩
  | cond s t f iht ihf =>
    intro tm G H x tm' G' h e;simp only [exD] at h ⊢
    obtain ⟨b,h1,h⟩:=Option.bind_eq_some_iff.1 h
    rw [h1,Option.bind_some]
    cases b with
    | true=>exact iht _ _ _ _ _ _ h e
    | false=>exact ihf _ _ _ _ _ _ h e
  | block id b ih =>
    intro tm G H x tm' G' h e;simp only [exD] at h ⊢
    obtain ⟨⟨y,tm1,G1⟩,h1,h2⟩:=Option.map_eq_some_iff.1 h
    obtain ⟨H1,h3,e1⟩:=ih _ _ _ _ _ _ h1 e
    rw [h3,Option.map_some]
    cases y with
    | exit id' =>
      simp only [unblock] at h2 ⊢
      split at h2
      · rename_i hq;cases h2;exact ⟨H1,by first | rw [if_pos hq] | simp [hq],e1⟩
      · rename_i hq;cases h2;exact ⟨H1,by first | rw [if_neg hq] | simp [hq],e1⟩
    | normal=>cases h2;exact ⟨H1,rfl,e1⟩
    | ret=>cases h2;exact ⟨H1,rfl,e1⟩
  | loop keep b _=>intro tm G H x tm' G' h e;exact hl _ _ _ _ _ _ _ _ h e
  | cut keep b ih=>intro tm G H x tm' G' h e;exact ih _ _ _ _ _ _ h e
  | exit id=>intro tm G H x tm' G' h e;simp [exD] at h;obtain ⟨rfl,rfl,rfl⟩:=h;exact ⟨H,rfl,e⟩
  | ret=>intro tm G H x tm' G' h e;simp [exD] at h;obtain ⟨rfl,rfl,rfl⟩:=h;exact ⟨H,rfl,e⟩
theorem loopD_ext (hC:ExtC Y C):∀ n,ExtL Y (loopD C n)
  | 0=>fun keep b tm G H x tm' G' h e=>by simp [loopD] at h
  | n+1=>fun keep b tm G H x tm' G' h e=>by
    simp only [loopD] at h ⊢
    obtain ⟨⟨y,tm1,G1⟩,h1,h2⟩:=Option.bind_eq_some_iff.1 h
    obtain ⟨H1,h3,e1⟩:=exD_ext hC (loopD_ext hC n) _ _ _ _ _ _ _ h1 e
    rw [h3,Option.bind_some]
    cases y with
    | normal=>exact loopD_ext hC n _ _ _ _ _ _ _ _ h2 e1
    | exit id=>simp at h2;obtain ⟨rfl,rfl,rfl⟩:=h2;exact ⟨H1,rfl,e1⟩
    | ret=>simp at h2;obtain ⟨rfl,rfl,rfl⟩:=h2;exact ⟨H1,rfl,e1⟩
theorem rv_ext (e:Ext Y G H) {r:RV} {v:V1} (h:rvD tm G r=some v):rvD tm H r=some v:=by
  cases r with
  | t n=>exact h
  | box n agg=>exact h
  | pt n s =>
    simp only [rvD] at h ⊢
    split at h
    · rename_i id off hn
      try rw [hn]
      try simp only
      cases s with
      | some k =>
        simp only at h ⊢
        obtain ⟨c,h1,h2⟩:=Option.bind_eq_some_iff.1 h
        rw [e.lds h1];exact h2
      | none =>
        simp only at h ⊢
        obtain ⟨c,h1,h2⟩:=Option.bind_eq_some_iff.1 h
        rw [e.ld h1];exact h2
    · cases h
theorem rvs_ext (e:Ext Y G H):∀ (rs:List RV) (vs:List V1),rvsD tm G rs=some vs→rvsD tm H rs=some vs
  | [],vs,h=>h
  | r::rs,vs,h=>by
    simp only [rvsD] at h ⊢
    obtain ⟨v,h1,h⟩:=Option.bind_eq_some_iff.1 h
    obtain ⟨us,h2,h⟩:=Option.bind_eq_some_iff.1 h
    rw [rv_ext e h1,Option.bind_some,rvs_ext e rs us h2];exact h
variable {T:Nat→Option (Nat×DFn)}
theorem prim_ext {q:Prim} {args:List V1} {vs:List V1} (h:q.run args G=some (vs,G')) (e:Ext Y G H):∃ H',q.run args H=some (vs,H')∧Ext Y G' H':=by
  rcases prim_some h with ⟨es,by_,id,off,len,i,id',off',len',rfl,rfl,hh⟩ | ⟨es,zero,id,off,len,i,j,rfl,rfl,hh⟩
  · obtain ⟨g1,g2,g3,g4,g5,g6,new,hn,hc⟩:=ins_some hh
    obtain ⟨c',hc'⟩:=Option.isSome_iff_exists.1 g6
    have own':=e.own hc'
    simp only [Prim.run,Nat.beq_refl,Bool.and_self,guardK]
    unfold insD
    rw [decide_eq_true ⟨g1,g2⟩,decide_eq_true g3,decide_eq_true g4,decide_eq_true g5,own',e.lds hn]
    simp only [Bool.and_self,Option.isSome_some,guardK,Option.bind_some]
    rcases hc with ⟨h0,h1,rfl,rfl⟩ | ⟨h0,cs,h1,h2,rfl,rfl⟩
    · rw [if_pos h0,decide_eq_true h1,e.nx]
      exact ⟨_,rfl,e.alloc _⟩
    · rw [if_neg h0,e.own h1,Option.bind_some,decide_eq_true h2,e.nx]
      exact ⟨_,rfl,(e.set (own_get h1) none).alloc _⟩
  · obtain ⟨g1,g2,g3,cs,h1,h2,rfl,rfl⟩:=del_some hh
    simp only [Prim.run,Nat.beq_refl,guardK]
    unfold delD
    rw [decide_eq_true ⟨g1,g2,g3⟩,e.own h1]
    simp only [guardK,Option.bind_some]
    rw [decide_eq_true h2]
    exact ⟨_,rfl,e.set (own_get h1) _⟩
theorem callD_ext:∀ n,ExtC Y (callD T n)
  | 0=>fun f args G vs G' H h e=>by simp [callD] at h
  | n+1=>fun f args G vs G' H h e=>by
    obtain ⟨p,d,hT,hp,h⟩:=callD_some h
    have hb:Nat.beq args.length p=true:=by rw [hp];exact Nat.beq_refl p
    rcases runD_some h with ⟨hpr,h⟩ | ⟨q,hpr,h⟩
    · obtain ⟨x,tm',h1,h2,h3⟩:=runB_some h
      obtain ⟨H',h4,e'⟩:=exD_ext (callD_ext n) (loopD_ext (callD_ext n) n) _ _ _ _ _ _ _ h1 e
      refine ⟨H',?_,e'⟩
      simp only [callD,hT,hb,runD,hpr,runB]
      rw [h4,Option.bind_some]
      rcases h3 with rfl | rfl <;> simp only [retK] <;> rw [rvs_ext e' _ _ h2] <;> rfl
    · obtain ⟨H',h4,e'⟩:=prim_ext h e
      refine ⟨H',?_,e'⟩
      simp only [callD,hT,hb,runD,hpr]
      exact h4
theorem callW_ext {f:Nat} {args:List V1} {vs:List V1} (h:callW T f args G=some (vs,G')) (e:Ext Y G H):∃ H',callW T f args H=some (vs,H')∧Ext Y G' H':=by
  obtain ⟨n,h⟩:=callW_some.1 h
  obtain ⟨H',h2,e'⟩:=callD_ext n _ _ _ _ _ _ h e
  exact ⟨H',callW_some.2 ⟨n,h2⟩,e'⟩
end
end Go.Proofs.D
