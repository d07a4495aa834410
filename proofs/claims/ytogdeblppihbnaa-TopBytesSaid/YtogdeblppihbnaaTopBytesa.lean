/- Texts of the proof (PWalk, DPrim, PPrim, TI); no condition. -/
import Derived.Test.YtogdeblppihbnaaTopBytesFb
import Derived.KernelRfl
import Derived.Test.YtogdeblppihbnaaProg
import Derived.WalkKit
import Derived.Shelf.RegionOpenPlain
import Derived.Lib.Walk
import Derived.Lib.SliceRun
import Derived.Lib.JoinLaws
import Derived.Lib.AppendZeros
import Derived.Lib.AppendZerosOnto
import Derived.Lib.Overlaps
import Derived.Laws.Externs
import Derived.Laws.IdiomCopy
import Derived.Laws.NewBlocks
import Derived.Test.YtogdeblppihbnaaTopBytesFa
set_option linter.unusedSimpArgs false
set_option linter.unusedVariables false
/- slices.Insert and slices.Delete of rows of pairs of numbers: what their code does. -/
set_option linter.unusedVariables false
set_option linter.unusedSimpArgs false
namespace Go.Proofs.D
open Go Go.RowKit Go.Lib
theorem step_copy_run {P:Program} {ops:Array Oper} {o:Oper} {a:Act} {w:World} {K:Act→World→Prop} {Q:Exit→Act→World→Prop} {E:Prop}
    (hg:o.guard=none) (d x:Operand) (dT sT:TypeId) (hop:o.op=Op.call { callee:=Callee.builtin Builtin.copy,args:=#[d,x],argTypes:=#[dT,sT] })
    (v u:Value) (hd:a.eval d=v) (hx:a.eval x=u) {v':Value} {w':World} (hr:(Builtin.copy_ #[dT,sT] o.type #[v,u]).run P w = .ok v' w') (hK:K (a.put o.dst v') w') :
    if Region.wanted o (yielded ops a.tmps)=true then Oper.wp P o a w K Q else E:=by
  have hw:Region.wanted o (yielded ops a.tmps)=true:=by simp [Region.wanted,hg]
  rw [if_pos hw]
  unfold Oper.wp
  simp [execOp,hop,resolve,invoke,builtin,hd,hx,hr,Result.andThen]
  exact hK
theorem wpList_copy_run {P:Program} (w:World) {ops:Array Oper} {rest:List Oper} {o:Oper} {a:Act} {Q:Exit→Act→World→Prop} (hgd:o.guard=none) (d s:Operand) (t t':TypeId)
    (ho:o.op = .call { callee:=.builtin .copy,args:=#[d,s],argTypes:=#[t,t'] }) (v u:Value) (hd:a.eval d=v) (hs:a.eval s=u) {v':Value} {w':World}
    (hr:(Builtin.copy_ #[t,t'] o.type #[v,u]).run P w = .ok v' w') (h:wpList P ops Q rest (a.put o.dst v') w'):wpList P ops Q (o::rest) a w :=
  wpList_plain hgd fun _ hK=>by
    have:=hK _ _ h
    unfold Oper.wp execOp
    simp only [ho,resolve,invoke,builtin,Sem.run_bind,Sem.run_pure,Result.andThen_ok,List.map_toArray,List.map_cons,List.map_nil,hd,hs,hr]
    exact this
namespace Pr
theorem tS:Try.prog.underlying 73=some (.slice 95):=by kernel_rfl
theorem tI:Try.prog.underlying 3=some (.int .i64):=by kernel_rfl
theorem tB:Try.prog.underlying 4=some .bool:=by kernel_rfl
theorem t0:Try.prog.underlying 0=some (.tuple #[]):=by kernel_rfl
theorem iE:(Try.prog.info? 95).map (fun i=>(i.zero,i.size,i.bytes))=some (some (Value.agg #[.int .i64 0,.int .i64 0]),2,16):=by kernel_rfl
theorem mixed:Try.prog.follows .mixedOrders=true:=by kernel_rfl
theorem size_of {t:TypeId} {z:Value} {n:Nat} (h:(Try.prog.info? t).map (fun i=>(i.zero,i.size))=some (some z,n)) (w:World):(Go.sizeOf t).run Try.prog w = .ok n w:=by
  cases hq:Try.prog.info? t with
  | none=>rw [hq] at h;cases h
  | some i =>
    rw [hq] at h
    simp only [Option.map_some,Option.some.injEq,Prod.mk.injEq] at h
    simp [sizeOf,typeInfo,hq,h.2]
theorem zE (w:World):(Go.sizeOf 95).run Try.prog w = .ok 2 w:=size_of (z:=Value.agg #[.int .i64 0,.int .i64 0]) (by
  have:=iE
  cases hq:Try.prog.info? 95 with
  | none=>rw [hq] at this;cases this
  | some i=>rw [hq] at this;simp only [Option.map_some,Option.some.injEq,Prod.mk.injEq] at this ⊢;exact ⟨this.1,this.2.1⟩) w
set_option maxHeartbeats 4000000 in
set_option maxRecDepth 100000 in
theorem ins_end (base:Option Addr) (n c vb voff m vc:Nat) (w w':World) (v':Value) (hm:0<m) (hnc:n≤c) (hb:base=none→c=0)
    (hrun:∀ ty,(Builtin.append_ #[73,73] ty #[.slice base n c,.slice (some ⟨vb,voff,none⟩) m vc]).run Try.prog w = .ok v' w') :
    Calls Try.prog 90 #[.slice base n c,.int .i64 n,.slice (some ⟨vb,voff,none⟩) m vc] w fun e wx=>e = .returned v'∧wx=w':=by
  have tS:=tS;have tI:=tI;have tB:=tB;have t0:=t0;have zE:=zE;have mixed:=mixed
  have uS:=run_underlying tS;have uI:=run_underlying tI;have uB:=run_underlying tB
  have hz1:¬ ((m:Int)=0):=by omega
  go_enter Try.func90,Try.ntmps90
  cases base with
  | none =>
    have h0:=hb rfl
    subst h0
    have:n=0:=by omega
    subst this
    go_wp2_with (at_builtin;refine Lib.wpList_append_run _ rfl _ _ _ _ rfl _ _ rfl rfl _ _ (hrun _) ?_)
    go_ret
    exact ⟨rfl,rfl⟩
  | some a =>
    obtain ⟨ab,ao,asp⟩:=a
    go_wp2_with (at_builtin;refine Lib.wpList_append_run _ rfl _ _ _ _ rfl _ _ rfl rfl _ _ (hrun _) ?_)
    all_goals (go_ret;exact ⟨rfl,rfl⟩)
set_option maxHeartbeats 4000000 in
set_option maxRecDepth 100000 in
theorem ins_shift (b off n c i vb voff m vc:Nat) (w W1 W2:World) (k1 k2:Value) (hi:i<n) (hm:0<m) (hroom:n+m≤c) (hn63:n+m≤1099511627776)
    (hov:∀ lb cb,(callFunc 100 #[.slice (some ⟨vb,voff,none⟩) m vc,.slice (some ⟨b,off+(i+m)*2,none⟩) lb cb]).run Try.prog w = .ok (.value (.bool false)) w)
    (hcp1:∀ ty dc sc,(Builtin.copy_ #[73,73] ty #[.slice (some ⟨b,off+(i+m)*2,none⟩) (n+m-(i+m)) dc,.slice (some ⟨b,off+i*2,none⟩) (n+m-i) sc]).run Try.prog w.drew = .ok k1 W1)
    (hcp2:∀ ty dc,(Builtin.copy_ #[73,73] ty #[.slice (some ⟨b,off+i*2,none⟩) (n+m-i) dc,.slice (some ⟨vb,voff,none⟩) m vc]).run Try.prog W1 = .ok k2 W2) :
    Calls Try.prog 90 #[.slice (some ⟨b,off,none⟩) n c,.int .i64 i,.slice (some ⟨vb,voff,none⟩) m vc] w fun e w'=>e = .returned (.slice (some ⟨b,off,none⟩) (n+m) c)∧w' = W2:=by
  have tS:=tS;have tI:=tI;have tB:=tB;have t0:=t0;have zE:=zE;have mixed:=mixed
  have uS:=run_underlying tS;have uI:=run_underlying tI;have uB:=run_underlying tB
  have hz1:¬ ((m:Int)=0):=by omega
  have hz2:¬ ((i:Int)=(n:Int)):=by omega
  have hw1:IntKind.i64.wrap ((i:Int)+(m:Int))=(i:Int)+(m:Int):=by rw [IntKind.wrap_i64];omega
  have hb1:(0:Int)≤(i:Int)+(m:Int):=by omega
  have hin:i≤n:=by omega
  have htn:((i:Int)+(m:Int)).toNat=i+m:=by omega
  have hb2:¬ (c=i+m):=by omega
  have hb3:(i:Int)≤(n:Int)+(m:Int):=by omega
  have hb4:¬ (c=i):=by omega
  go_enter Try.func90,Try.ntmps90
  go_wp2_with (simp only [hov])
  go_region_law_o (refine step_copy_run rfl _ _ 73 73 rfl _ _ (by simp [Act.eval,Act.put]) (by simp [Act.eval,Act.put]) (hcp1 _ _ _) ?_)
  go_wp2_with (at_builtin;refine wpList_copy_run _ rfl _ _ 73 73 rfl _ _ rfl rfl (hcp2 _ _) ?_)
  go_ret
  exact ⟨rfl,rfl⟩
set_option maxHeartbeats 4000000 in
set_option maxRecDepth 100000 in
theorem ins_grow (b off n c i vb voff m vc g:Nat) (w:World) (ROW RA RB:Array Value) (kA kB:Value) (hi:i<n) (hm:0<m) (hnc:n≤c) (hroom:c<n+m) (hn63:n+m≤1099511627776) (hGn:n+m≤g) (hG63:g≤9223372036854775807)
    (hrz:∀ ty,(Builtin.append_ #[73,3] ty #[.slice (some ⟨b,off,none⟩) i c,.int .i64 ((n:Int)+(m:Int)-(i:Int))]).run Try.prog w = .ok (.slice (some ⟨w.heap.size,0,none⟩) (n+m) g) (w.drew.alloc (.cells ROW 95)))
    (hcpA:∀ W:World,W.heap=(w.drew.alloc (.cells ROW 95)).heap→∀ ty dc,(Builtin.copy_ #[73,73] ty #[.slice (some ⟨w.heap.size,i*2,none⟩) (n+m-i) dc,.slice (some ⟨vb,voff,none⟩) m vc]).run Try.prog W = .ok kA (W.setRow w.heap.size RA))
    (hcpB:∀ W:World,W.heap=((w.drew.alloc (.cells ROW 95)).setRow w.heap.size RA).heap→∀ ty dc sc,(Builtin.copy_ #[73,73] ty #[.slice (some ⟨w.heap.size,(i+m)*2,none⟩) (n+m-(i+m)) dc,.slice (some ⟨b,off+i*2,none⟩) (n-i) sc]).run Try.prog W = .ok kB (W.setRow w.heap.size RB)) :
    Calls Try.prog 90 #[.slice (some ⟨b,off,none⟩) n c,.int .i64 i,.slice (some ⟨vb,voff,none⟩) m vc] w fun e w'=>e = .returned (.slice (some ⟨w.heap.size,0,none⟩) (n+m) g) ∧
      w'.heap=(((w.drew.alloc (.cells ROW 95)).setRow w.heap.size RA).setRow w.heap.size RB).heap∧w'.os=w.os∧w'.tape=w.tape∧w'.output=w.output:=by
  have tS:=tS;have tI:=tI;have tB:=tB;have t0:=t0;have zE:=zE;have mixed:=mixed
  have uS:=run_underlying tS;have uI:=run_underlying tI;have uB:=run_underlying tB
  have hz1:¬ ((m:Int)=0):=by omega
  have hz2:¬ ((i:Int)=(n:Int)):=by omega
  have hz3:(c:Int)<(n:Int)+(m:Int):=by omega
  have hw1:IntKind.i64.wrap ((i:Int)+(m:Int))=(i:Int)+(m:Int):=by rw [IntKind.wrap_i64];omega
  have hb1:(0:Int)≤(i:Int)+(m:Int):=by omega
  have hin:i≤n:=by omega
  have htn:((i:Int)+(m:Int)).toNat=i+m:=by omega
  have hb3:(i:Int)≤(n:Int):=by omega
  have hGi:¬ (g=i):=by omega
  have hGim:¬ (g=i+m):=by omega
  have hci:¬ (c=i):=by omega
  go_enter Try.func90,Try.ntmps90
  have hA:=fun ty dc=>hcpA ((w.alloc (.cells ROW 95)).drew) rfl ty dc
  go_wp2_with (first
    | (at_builtin;refine Lib.wpList_append_run _ rfl _ _ _ _ rfl _ _ rfl rfl _ _ (hrz _) ?_)
    | (simp only [hA]))
  go_region_law_o (refine step_copy_run rfl _ _ 73 73 rfl (.slice (some ⟨w.heap.size,(i+m)*2,none⟩) (n+m-(i+m)) (g-(i+m))) (.slice (some ⟨b,off+i*2,none⟩) (n-i) (c-i)) (by simp [Act.eval,Act.put]) (by simp [Act.eval,Act.put]) (hcpB (((w.alloc (.cells ROW 95)).drew.setRow w.heap.size RA).drew) rfl 3 (g-(i+m)) (c-i)) ?_)
  go_wp2
  go_ret
  exact ⟨rfl,rfl,rfl,rfl,rfl⟩
theorem step_append_run {P:Program} {ops:Array Oper} {o:Oper} {a:Act} {w:World} {K:Act→World→Prop} {Q:Exit→Act→World→Prop} {E:Prop}
    (hg:o.guard=none) (d x:Operand) (dT sT:TypeId) (hop:o.op=Op.call { callee:=Callee.builtin Builtin.append,args:=#[d,x],argTypes:=#[dT,sT] })
    (v u:Value) (hd:a.eval d=v) (hx:a.eval x=u) {v':Value} {w':World} (hr:(Builtin.append_ #[dT,sT] o.type #[v,u]).run P w = .ok v' w') (hK:K (a.put o.dst v') w') :
    if Region.wanted o (yielded ops a.tmps)=true then Oper.wp P o a w K Q else E:=by
  have hw:Region.wanted o (yielded ops a.tmps)=true:=by simp [Region.wanted,hg]
  rw [if_pos hw]
  unfold Oper.wp
  simp [execOp,hop,resolve,invoke,builtin,hd,hx,hr,Result.andThen]
  exact hK
set_option maxHeartbeats 4000000 in
set_option maxRecDepth 100000 in
theorem del_walk (b off n c i j:Nat) (w W1 W2:World) (A:Addr) (hij:i<j) (hj:j≤n) (hnc:n≤c)
    (hA:(if c=j then (⟨b,off,none⟩:Addr) else ⟨b,off+j*2,none⟩)=A)
    (hap:∀ ty,(Builtin.append_ #[73,73] ty #[.slice (some ⟨b,off,none⟩) i c,.slice (some A) (n-j) (c-j)]).run Try.prog w.drew = .ok (.slice (some ⟨b,off,none⟩) (i+(n-j)) c) W1)
    (hcl:∀ ty,(Builtin.clear_ #[73] ty #[.slice (some ⟨b,off+(i+(n-j))*2,none⟩) (n-(i+(n-j))) (c-(i+(n-j)))]).run Try.prog W1 = .ok (.tuple #[]) W2) :
    Calls Try.prog 85 #[.slice (some ⟨b,off,none⟩) n c,.int .i64 i,.int .i64 j] w fun e w'=>e = .returned (.slice (some ⟨b,off,none⟩) (i+(n-j)) c)∧w' = W2:=by
  have tS:=tS;have tI:=tI;have tB:=tB;have t0:=t0;have zE:=zE;have mixed:=mixed
  have uS:=run_underlying tS;have uI:=run_underlying tI;have uB:=run_underlying tB
  have hic:i≤c:=by omega
  have hjc:j≤c:=by omega
  have hne:¬ (i=j):=by omega
  have hA':(if c=j then some (⟨b,off,none⟩:Addr) else some ⟨b,off+j*2,none⟩)=some A:=by rw [← hA];split <;> rfl
  go_enter Try.func85,Try.ntmps85
  go_wp2_with fail
  go_region_law_o (refine step_append_run rfl (.tmp 22) (.tmp 25) 73 73 rfl (.slice (some ⟨b,off,none⟩) i c) (.slice (some A) (n-j) (c-j)) (by simp [Act.eval,Act.put]) (by simp [Act.eval,Act.put]) (hap _) ?_)
  go_wp2
  go_ret
  exact ⟨rfl,rfl⟩
end Pr
end Go.Proofs.D
/- Rows written over in part;what is new,and what is moved. -/
set_option linter.unusedVariables false
namespace Go.Proofs.D
open Go
section
variable {α:Type} {l vs:List α} {a:Nat}
def spl (l:List α) (a:Nat) (vs:List α):List α:=l.take a++vs++l.drop (a+vs.length)
theorem spl_len (h:a+vs.length≤l.length):(spl l a vs).length=l.length:=by
  unfold spl;simp only [List.length_append,List.length_take,List.length_drop];omega
theorem spl_get (h:a+vs.length≤l.length) (j:Nat):(spl l a vs)[j]? = if j<a then l[j]? else if j<a+vs.length then vs[j-a]? else l[j]?:=by
  unfold spl
  have lt:(l.take a).length=a:=by rw [List.length_take];omega
  by_cases h1:j<a
  · rw [if_pos h1,List.append_assoc,List.getElem?_append_left (by omega),List.getElem?_take,if_pos h1]
  · rw [if_neg h1]
    by_cases h2:j<a+vs.length
    · rw [if_pos h2,List.append_assoc,List.getElem?_append_right (by omega),lt,List.getElem?_append_left (by omega)]
    · rw [if_neg h2,List.append_assoc,List.getElem?_append_right (by omega),lt,List.getElem?_append_right (by omega),List.getElem?_drop]
      congr 1;omega
theorem spl_spl {u:List α} (h:a+u.length+vs.length≤l.length):spl (spl l a u) (a+u.length) vs=spl l a (u++vs):=by
  have lt:(l.take a++u).length=a+u.length:=by rw [List.length_append,List.length_take];omega
  unfold spl
  rw [List.take_append_of_le_length (by omega),List.take_of_length_le (by omega),← List.drop_drop,List.drop_append_of_le_length (by omega),List.drop_eq_nil_of_le (by omega:(l.take a++u).length≤a+u.length),List.nil_append,List.drop_drop,List.length_append,← List.append_assoc,Nat.add_assoc]
end
theorem alloc_new' (w:World) (o:Go.Obj):(w.alloc o).heap[w.heap.size]? = some o:=by
  show (w.heap.push o)[w.heap.size]? = some o
  simp
theorem alloc_old' (w:World) (o:Go.Obj) (b:Nat) (h:b<w.heap.size):(w.alloc o).heap[b]? = w.heap[b]?:=by
  show (w.heap.push o)[b]? = w.heap[b]?
  rw [Array.getElem?_push,if_neg (by omega)]
theorem cell_heap {W w:World} {a:Addr} (h:W.heap[a.block]? = w.heap[a.block]?):W.cell? a=w.cell? a:=by unfold World.cell?;rw [h]
section
variable {P:Program} {base:Nat} {φ:Phi} {w:World} {G G':GH}
theorem run_copy_k {k:Nat} {dT sT ty elem:TypeId} {b off dLen dCap:Nat} {s:Addr} {sLen sCap:Nat} {cs:List Value} {cur:Array Value} {t:TypeId}
    (hu:P.underlying dT=some (.slice elem)) (hs:(P.info? elem).map (·.size)=some k) (hn:cs.length=min sLen dLen*k)
    (hsrc:∀ j v,cs[j]? = some v→w.cell? (s.add j)=some v) (hg:w.heap[b]? = some (.cells cur t (0,0))) (hl:off+cs.length≤cur.size) (h1:∀ v∈cs,v.oneCell' = true) :
    (Builtin.copy_ #[dT,sT] ty #[.slice (some ⟨b,off,none⟩) dLen dCap,.slice (some s) sLen sCap]).run P w =   .ok (goInt ((min sLen dLen:Nat):Int)) (w.setRow b (spl cur.toList off cs).toArray):=by
  have hl':=run_loadCells_list (P:=P) w s cs hsrc
  have hst:=storeCells_run (P:=P) hg hl h1
  rw [hn] at hl'
  cases hq:P.info? elem with
  | none=>simp [hq] at hs
  | some i =>
    have hi:i.size=k:=by simpa [hq] using hs
    subst hi
    unfold spl
    simp [Builtin.copy_,run_underlying hu,Builtin.lenOf,Builtin.firstCells,sizeOf,typeInfo,hq,hl',hst]
theorem zeros2 {v:Value} (n:Nat):(Builtin.zeroCells #[v,v] n).toList=List.replicate (n*2) v:=by
  simp [Builtin.zeroCells]
  apply List.ext_getElem
  · simp
  · intro i h1 h2
    rcases Nat.mod_two_eq_zero_or_one i with h | h <;> simp [h]
theorem reps2 {v:Cell} (n:Nat):reps n [v,v]=List.replicate (n*2) v:=by
  unfold reps
  induction n with
  | zero=>rfl
  | succ n ih=>rw [List.replicate_succ,List.flatten_cons,ih,Nat.add_mul,Nat.one_mul,Nat.add_comm,Nat.add_comm 2,List.replicate_succ,List.replicate_succ];rfl
theorem run_clear_k {t e ty:TypeId} {z:Value} {zs:List Value} {b off n c:Nat} {cur:Array Value} {te:TypeId} (ht:P.underlying t=some (.slice e)) (hv:∀ w,(zeroValue e).run P w = .ok z w) (hz:(Builtin.zeroCells z.cells n).toList=zs) (h1:∀ v∈zs,v.oneCell' = true) (hn:n≠0)
    (hg:w.heap[b]? = some (.cells cur te (0,0))) (hl:off+zs.length≤cur.size) :
    (Builtin.clear_ #[t] ty #[.slice (some ⟨b,off,none⟩) n c]).run P w = .ok (.tuple #[]) (w.setRow b (spl cur.toList off zs).toArray):=by
  have hst:=storeCells_run (P:=P) (vs:=zs) hg hl h1
  obtain ⟨m,rfl⟩:∃ m,n=m+1:=⟨n-1,by omega⟩
  unfold spl
  simp [Builtin.clear_,run_underlying ht,hv,hz,hst]
theorem fin_new {ncs:List Cell} {c:Array Value} {te:TypeId} {n cap:Nat} {w':World} {dead:Nat→Bool} (H:HRel base φ G.get w) (hw:G.wf) (hf:φ G.next=none) (hb:base≤w.heap.size)
    (hget:∀ j,G'.get j=if j=G.next then some (.row ncs false) else if dead j then none else G.get j) (hnx:G'.next=G.next+1)
    (hw':w'.heap[w.heap.size]? = some (.cells c te (0,0))) (hsz:w.heap.size≤w'.heap.size) (hk:∀ b,b<w.heap.size→w'.heap[b]? = w.heap[b]?) (h1:w'.os=w.os) (h2:w'.tape=w.tape) (h3:w'.output=w.output)
    (hn:n≤cap) (hl:ncs.length≤cap*2) (hlim:cap*2≤c.size) (hc:∀ (i:Nat) (x:Cell),ncs[i]? = some x→∃ v,c[i]? = some v∧CRel φ x v) :
    ∃ φ' v,Ending.returned (.slice (some ⟨w.heap.size,0,none⟩) n cap) = .returned v∧RRel φ' [.c (.sl 2 G.next 0 n)] v∧Good base φ G w φ' G' w':=by
  have le:=Phi.le_put (φ:=φ) (id:=G.next) ⟨w.heap.size,0,cap*2⟩ hf
  refine ⟨φ.put G.next ⟨w.heap.size,0,cap*2⟩,_,rfl,.inr ⟨by have:=hw.2;omega,_,0,cap,Phi.put_self _ _ _,rfl,hn,.inl ⟨by simp,by simp⟩⟩,?_⟩
  refine good_fresh (dead:=dead) H hw hf hget hnx ?_ (.inl (Nat.le_refl _)) hsz (fun b hb _=>hk b hb) h1 h2 h3
  refine ⟨c,te,(0,0),hw',by simpa using hl,hlim,fun k x hx=>?_,fun _=>⟨rfl,hb⟩,fun h=>by cases h⟩
  obtain ⟨v,hv,rv⟩:=hc k x hx
  exact ⟨v,by rw [Nat.zero_add];exact hv,rv.mono le⟩
theorem fin_move {id:Nat} {cs ncs:List Cell} {L:Loc} {off:Nat} {c:Array Value} {te:TypeId} {n cap:Nat} {w':World} (H:HRel base φ G.get w) (hw:G.wf) (hf:φ G.next=none)
    (hid:G.get id=some (.row cs false)) (hL:φ id=some L) (hbase:base≤L.blk)
    (hw':w'.heap[L.blk]? = some (.cells c te (0,0))) (hsz:w'.heap.size=w.heap.size) (hk:∀ b,b≠L.blk→w'.heap[b]? = w.heap[b]?) (h1:w'.os=w.os) (h2:w'.tape=w.tape) (h3:w'.output=w.output)
    (hn:n≤cap) (hcap:L.sh+off+cap*2=L.lim) (hl:L.sh+off+ncs.length≤L.lim) (hlim:L.lim≤c.size) (hc:∀ (i:Nat) (x:Cell),ncs[i]? = some x→∃ v,c[L.sh+off+i]? = some v∧CRel φ x v) :
    ∃ φ' v,Ending.returned (.slice (some ⟨L.blk,L.sh+off,none⟩) n cap) = .returned v∧RRel φ' [.c (.sl 2 G.next 0 n)] v∧Good base φ G w φ' ((G.set id none).alloc (.row ncs false)) w':=by
  have le:=Phi.le_put (φ:=φ) (id:=G.next) ⟨L.blk,L.sh+off,L.lim⟩ hf
  refine ⟨φ.put G.next ⟨L.blk,L.sh+off,L.lim⟩,_,rfl,.inr ⟨by have:=hw.2;omega,_,L.sh+off,cap,Phi.put_self _ _ _,rfl,hn,.inl ⟨by simp,hcap⟩⟩,?_⟩
  refine good_fresh (o':=.row ncs false) (dead:=fun j=>Nat.beq j id) H hw hf (fun j=>?_) rfl ?_ (.inr ⟨id,_,L,by simp,hid,rfl,hL,rfl⟩) (by omega) (fun b _ hb=>hk b hb) h1 h2 h3
  · rw [GH.get_alloc,GH.next_set]
    by_cases hj:j=G.next
    · rw [if_pos hj,if_pos hj]
    · rw [if_neg hj,if_neg hj,GH.get_set]
      by_cases hji:j=id
      · rw [if_pos hji,if_pos (by simp [hji])]
      · rw [if_neg hji,if_neg (by simpa using hji)]
  · refine ⟨c,te,(0,0),hw',hl,hlim,fun k x hx=>?_,fun _=>⟨rfl,hbase⟩,fun h=>by cases h⟩
    obtain ⟨v,hv,rv⟩:=hc k x hx
    exact ⟨v,hv,rv.mono le⟩
end
end Go.Proofs.D
/- slices.Insert and slices.Delete,as they are told,are what their code does. -/
set_option linter.unusedVariables false
set_option linter.unusedSimpArgs false
namespace Go.Proofs.D
open Go Go.RowKit Go.Lib
namespace Pr
theorem arr3 {a:Array Value} {x y z:Value} (h:a.toList=[x,y,z]):a = #[x,y,z]:=by
  apply Array.toList_inj.1;rw [h]
theorem infoE:∃ i,Try.prog.info? 95=some i∧i.zero=some (Value.agg #[.int .i64 0,.int .i64 0])∧i.size=2∧i.bytes=16:=by
  have:=iE
  cases hq:Try.prog.info? 95 with
  | none=>rw [hq] at this;cases this
  | some i =>
    rw [hq] at this
    simp only [Option.map_some,Option.some.injEq,Prod.mk.injEq] at this
    exact ⟨i,rfl,this.1,this.2.1,this.2.2⟩
theorem sizeE:(Try.prog.info? 95).map (·.size)=some 2:=by
  obtain ⟨i,h1,_,h2,_⟩:=infoE
  rw [h1];simp [h2]
set_option maxRecDepth 100000 in
theorem ins_ok:PrimOk Try.prog 90 (.ins 2 16):=by
  intro base f args G vs G' h
  dsimp only at h
  split at h
  case isFalse=>cases h
  rename_i hf
  subst hf
  rcases prim_some h with ⟨es,by_,id,off,len,i,id',off',len',hq,ha,h⟩ | ⟨_,_,_,_,_,_,_,hq,_⟩
  case inr=>cases hq
  cases hq
  subst ha
  obtain ⟨g1,g2,g3,g4,g5,g6,new,hn,hc⟩:=ins_some h
  have hvs:vs.length=1:=by rcases hc with ⟨_,_,rfl,_⟩ | ⟨_,_,_,_,rfl,_⟩ <;> rfl
  refine ⟨⟨Try.f90,Try.func90,(fun h=>by cases h),by decide,hvs⟩,fun φ w argv H wf hb fresh ra=>?_⟩
  obtain ⟨v1,z1,e1,r1,ra⟩:=ra.uncons
  obtain ⟨v2,z2,e2,r2,ra⟩:=ra.uncons
  obtain ⟨v3,z3,e3,r3,ra⟩:=ra.uncons
  rw [e2,e3,ra.nil_inv] at e1
  have:=arr3 e1
  subst this
  clear e1 e2 e3 ra
  obtain ⟨n,rfl⟩:∃ n:Nat,i=(n:Int):=⟨i.toNat,by omega⟩
  have r2:v2 = .int .i64 (n:Int):=r2
  subst r2
  have hmost:len+len'≤1099511627776:=by simpa [most] using g5
  obtain ⟨c',hc'⟩:=Option.isSome_iff_exists.1 g6
  have hid':=own_row hc'
  obtain ⟨L',o',cap',hL',hv3,hle',hcap'⟩:∃ (L':Loc) (o' cap':Nat),φ id' = some L'∧v3 = .slice (some ⟨L'.blk,o',none⟩) len' cap'∧len'≤cap'∧((o' = L'.sh+off'∧o' + cap' * 2=L'.lim)∨(cap' = 0∧L'.sh+off' = L'.lim)):=by
    rcases r3 with ⟨_,_,e0,_⟩ | ⟨h0,L',o',cap',k⟩
    · omega
    · exact ⟨L',o',cap',k⟩
  have ho':o' = L'.sh+off':=by rcases hcap' with ⟨k,_⟩ | ⟨k,_⟩;exact k;omega
  subst ho'
  subst hv3
  obtain ⟨hnl,vals,rn,hcells⟩:=lds_cells H hn hL'
  obtain ⟨cv,ev,hhv,b1,b2,_,b4⟩:=row_cells H hid' hL'
  have hvl:vals.length=len' * 2:=by rw [← rn.len,hnl]
  obtain ⟨ti,hi,hz,hsz,hby⟩:=infoE
  have hfn:φ G.next=none:=by
    have hnx:G'.next=G.next+1:=by rcases hc with ⟨_,_,_,rfl⟩ | ⟨_,_,_,_,_,rfl⟩ <;> rfl
    exact fresh _ (Nat.le_refl _) (by omega)
  have zs:∀ k,(Builtin.zeroCells (Value.agg #[.int .i64 0,.int .i64 0]).cells k).size=k*2:=fun k=>by rw [size_zeroCells];rfl
  have vlt:L'.blk<w.heap.size:=(Array.getElem?_eq_some_iff.1 hhv).1
  rcases hc with ⟨h0,hlen0,rfl,rfl⟩ | ⟨h0,cs,hcs,hoff,rfl,rfl⟩
  · -- into nothing
    subst h0
    subst hlen0
    have hn0:n=0:=by omega
    subst hn0
    have hv1:v1 = .slice none 0 0:=by
      rcases r1 with ⟨_,_,_,k⟩ | ⟨k,_⟩
      · exact k
      · exact absurd rfl k
    subst hv1
    have hrun:=fun ty=>app_grow (P:=Try.prog) (w:=w) (ty:=ty) (s:=none) (sLen:=0) (sCap:=0) (olds:=[]) tS tS hi hz (by simp) (fun _=>rfl) (fun p hp=>by cases hp) (by rw [hsz];exact hvl) hcells (c:=cap') (by omega) (by omega) (by omega)
    refine (ins_end none 0 0 L'.blk (L'.sh+off') len' cap' w _ _ g3 (Nat.le_refl _) (fun _=>rfl) hrun).mono ?_
    rintro e w' ⟨rfl,rfl⟩
    have hge:=grownCap_ge w (0+len') 0 95
    have:=fin_new (te:=95) (ncs:=new) (c:=(([]:List Value).toArray++vals.toArray++Builtin.zeroCells (Value.agg #[.int .i64 0,.int .i64 0]).cells (grownCap w (0+len') 0 95-(0+len')))) (n:=0+len') (cap:=grownCap w (0+len') 0 95) (dead:=fun _=>false) (G':=G.alloc (.row new false)) H wf hfn hb (fun j=>by rw [GH.get_alloc];simp) rfl (alloc_new' w.drew _) (by simp) (fun b hb=>alloc_old' w.drew _ b hb) rfl rfl rfl hge (by rw [hnl];omega) (by simp only [Array.size_append,List.size_toArray,zs,hvl,List.length_nil];omega) (fun k x hx=>by
      obtain ⟨v,hv,rv⟩:=rn.get k x hx
      refine ⟨v,?_,rv⟩
      have hk:=(List.getElem?_eq_some_iff.1 hv).1
      rw [Array.getElem?_append_left (by simp;omega)]
      simpa using hv)
    rw [Nat.zero_add] at this ⊢
    exact this
  · have hid:=own_row hcs
    obtain ⟨L,o1,cap,hL,hv1,hle,hcap⟩:∃ (L:Loc) (o1 cap:Nat),φ id=some L∧v1 = .slice (some ⟨L.blk,o1,none⟩) len cap∧len≤cap∧((o1=L.sh+off∧o1+cap*2=L.lim)∨(cap=0∧L.sh+off=L.lim)):=by
      rcases r1 with ⟨k,_⟩ | ⟨_,L,o1,cap,k⟩
      · exact absurd k h0
      · exact ⟨L,o1,cap,k⟩
    subst hv1
    obtain ⟨c,e,hh,a1,a2,a3,a4⟩:=row_cells H hid hL
    have bne:L'.blk≠L.blk:=fun e=>g4 (H.inj id id' _ _ L L' hid hid' rfl rfl hL hL' e.symm)
    have blt:L.blk<w.heap.size:=(Array.getElem?_eq_some_iff.1 hh).1
    have hdead:∀ ncs:List Cell,∀ j,((G.set id none).alloc (.row ncs false)).get j=if j=G.next then some (.row ncs false) else if Nat.beq j id then none else G.get j:=fun ncs j=>by
      rw [GH.get_alloc,GH.next_set]
      by_cases hj:j=G.next
      · rw [if_pos hj,if_pos hj]
      · rw [if_neg hj,if_neg hj,GH.get_set]
        by_cases hji:j=id
        · rw [if_pos hji,if_pos (by simp [hji])]
        · rw [if_neg hji,if_neg (by simpa using hji)]
    obtain ⟨olds,hol⟩:∃ olds,olds=(c.toList.drop (L.sh+off)).take (len*2):=⟨_,rfl⟩
    have hcl:c.toList.length=c.size:=Array.length_toList
    have ollen:olds.length=len*2:=by rw [hol];simp only [List.length_take,List.length_drop];omega
    have olget:∀ j v,olds[j]? = some v→j<len*2∧c[L.sh+off+j]? = some v:=fun j v hj=>by
      rw [hol,List.getElem?_take] at hj
      split at hj
      · rename_i hjl;rw [List.getElem?_drop] at hj;exact ⟨hjl,by simpa using hj⟩
      · cases hj
    have ro:R2 (CRel φ) (cs.drop off) olds:=⟨by rw [ollen];simp;omega,fun k x hx=>by
      rw [List.getElem?_drop] at hx
      obtain ⟨v,hv,rv⟩:=a3 _ x hx
      have hk:=(List.getElem?_eq_some_iff.1 hx).1
      refine ⟨v,?_,rv⟩
      rw [hol,List.getElem?_take,if_pos (by omega),List.getElem?_drop,Nat.add_assoc]
      simpa using hv⟩
    rw [Int.toNat_natCast]
    by_cases hnl2:n=len
    · -- at the end
      subst hnl2
      have htake:(cs.drop off).take (n*2)=cs.drop off:=List.take_of_length_le (by simp;omega)
      have hdrop:(cs.drop off).drop (n*2)=[]:=List.drop_eq_nil_of_le (by simp;omega)
      rw [htake,hdrop,List.append_nil]
      have rall:=ro.append rn
      by_cases hroom:n+len'≤cap
      · obtain ⟨rfl,hlim⟩:o1=L.sh+off∧o1+cap*2=L.lim:=by
          rcases hcap with k | ⟨k,_⟩
          · exact k
          · omega
        have hrun:=fun ty=>app_room (P:=Try.prog) (w:=w) (ty:=ty) (sLen:=n) (sCap:=cap) (off:=L.sh+off) tS tS hi hh (by rw [hsz];exact hvl) hcells rn.one hroom (by rw [hsz];omega) (c:=cap')
        refine (ins_end (some ⟨L.blk,L.sh+off,none⟩) n cap L'.blk (L'.sh+off') len' cap' w _ _ g3 hle (fun h=>by cases h) hrun).mono ?_
        rintro ee w' ⟨rfl,rfl⟩
        have hsp:L.sh+off+n*ti.size+vals.length≤c.toList.length:=by rw [hsz];omega
        refine fin_move (te:=e) (c:=(spl c.toList (L.sh+off+n*ti.size) vals).toArray) H wf hfn hid hL a4 (setRow_heap w L.blk c _ e _ hh) (size_setRow _ _ _) (fun b hb=>setRow_keep _ _ _ _ hb) rfl rfl rfl hroom hlim (by rw [List.length_append,hnl];simp only [List.length_drop];omega) (by rw [List.size_toArray,spl_len hsp];omega) (fun k x hx=>?_)
        obtain ⟨v,hv,rv⟩:=rall.get k x hx
        refine ⟨v,?_,rv⟩
        rw [List.getElem?_toArray,spl_get hsp,hsz]
        by_cases hk:k<n*2
        · rw [List.getElem?_append_left (by omega)] at hv
          rw [if_pos (by omega)]
          simpa using (olget k v hv).2
        · rw [List.getElem?_append_right (by omega),ollen] at hv
          have:=(List.getElem?_eq_some_iff.1 hv).1
          rw [if_neg (by omega),if_pos (by omega),← hv]
          congr 1;omega
      · have hrun:=fun ty=>app_grow (P:=Try.prog) (w:=w) (ty:=ty) (s:=some ⟨L.blk,o1,none⟩) (sLen:=n) (sCap:=cap) (olds:=olds) tS tS hi hz (by rw [hsz];exact ollen) (fun h=>by cases h) (fun p hp j v hj=>by
          cases hp
          obtain ⟨hjl,hj2⟩:=olget j v hj
          have ho1:o1=L.sh+off:=by
            rcases hcap with ⟨k,_⟩ | ⟨k,_⟩
            · exact k
            · omega
          subst ho1
          rw [Addr.add_lit]
          simp [World.cell?,hh];simpa using hj2) (by rw [hsz];exact hvl) hcells (c:=cap') (by omega) (by omega) (by omega)
        refine (ins_end (some ⟨L.blk,o1,none⟩) n cap L'.blk (L'.sh+off') len' cap' w _ _ g3 hle (fun h=>by cases h) hrun).mono ?_
        rintro ee w' ⟨rfl,rfl⟩
        have hge:=grownCap_ge w (n+len') cap 95
        refine fin_new (te:=95) (dead:=fun j=>Nat.beq j id) H wf hfn hb (hdead _) rfl (alloc_new' w.drew _) (by simp) (fun b hb=>alloc_old' w.drew _ b hb) rfl rfl rfl hge (by rw [List.length_append,hnl];simp only [List.length_drop];omega) (by simp only [Array.size_append,List.size_toArray,zs,hvl,ollen];omega) (fun k x hx=>?_)
        obtain ⟨v,hv,rv⟩:=rall.get k x hx
        refine ⟨v,?_,rv⟩
        have hk:=(List.getElem?_eq_some_iff.1 hv).1
        rw [List.length_append] at hk
        rw [Array.getElem?_append_left (by simp;omega)]
        simpa using hv
    · -- within
      have hnlt:n<len:=by omega
      obtain ⟨rfl,hlim⟩:o1=L.sh+off∧o1+cap*2=L.lim:=by
        rcases hcap with k | ⟨k,_⟩
        · exact k
        · omega
      have rall:=((ro.take (n*2)).append rn).append (ro.drop (n*2))
      have ot:(olds.take (n*2)).length=n*2:=by rw [List.length_take];omega
      have od:(olds.drop (n*2)).length=(len-n)*2:=by rw [List.length_drop];omega
      have all_get:∀ k v,(olds.take (n*2)++vals++olds.drop (n*2))[k]? = some v→(k<n*2∧olds[k]? = some v)∨(n*2≤k∧k<(n+len')*2∧vals[k-n*2]? = some v)∨((n+len')*2≤k∧k<(len+len')*2∧(olds.drop (n*2))[k-(n+len')*2]? = some v):=by
        intro k v hv
        by_cases h1:k<n*2
        · left
          rw [List.append_assoc,List.getElem?_append_left (by omega),List.getElem?_take,if_pos h1] at hv
          exact ⟨h1,hv⟩
        · right
          by_cases h2:k<(n+len')*2
          · left
            rw [List.append_assoc,List.getElem?_append_right (by omega),ot,List.getElem?_append_left (by omega)] at hv
            exact ⟨by omega,h2,hv⟩
          · right
            rw [List.getElem?_append_right (by rw [List.length_append];omega),List.length_append,ot,hvl] at hv
            have:=(List.getElem?_eq_some_iff.1 hv).1
            refine ⟨by omega,by omega,?_⟩
            rw [← hv];congr 1;omega
      have oneO:∀ v∈olds.drop (n*2),v.oneCell' = true:=(ro.drop (n*2)).one
      have nclen:(((cs.drop off).take (n*2)++new)++(cs.drop off).drop (n*2)).length=(len+len')*2:=by rw [rall.len];simp only [List.length_append];omega
      by_cases hroom:len+len'≤cap
      · -- there is room
        have hsp1:L.sh+off+(n+len')*2+(olds.drop (n*2)).length≤c.toList.length:=by omega
        obtain ⟨c1,ec1⟩:∃ c1,c1=spl c.toList (L.sh+off+(n+len')*2) (olds.drop (n*2)):=⟨_,rfl⟩
        have c1l:c1.length=c.size:=by rw [ec1,spl_len hsp1,hcl]
        have hsp2:L.sh+off+n*2+vals.length≤c1.length:=by omega
        have hov:∀ lb cb,(callFunc 100 #[.slice (some ⟨L'.blk,L'.sh+off',none⟩) len' cap',.slice (some ⟨L.blk,L.sh+off+(n+len')*2,none⟩) lb cb]).run Try.prog w = .ok (.value (.bool false)) w:=fun lb cb=>by
          rw [run_callFunc_extern Try.func100 (by kernel_rfl) (by kernel_rfl) (by kernel_rfl) (e:=Extern.SlicesOverlaps.overlaps #[73,73] #[4]) (by kernel_rfl),
            Lib.run_overlaps_apart w 73 4 95 tS 2 zE ⟨L'.blk,L'.sh+off',none⟩ ⟨L.blk,L.sh+off+(n+len')*2,none⟩ len' cap' lb cb bne ev e cv.size c.size (by simp [World.shape?,hhv]) (by simp [World.shape?,hh]) (by omega) (by simp [World.frozen?,hhv]) (by simp [World.frozen?,hhv])]
          rfl
        have hh1:(w.drew.setRow L.blk c1.toArray).heap[L.blk]? = some (.cells c1.toArray e (0,0)):=setRow_heap w.drew L.blk c _ e _ hh
        have hcp1:∀ ty dc sc,(Builtin.copy_ #[73,73] ty #[.slice (some ⟨L.blk,L.sh+off+(n+len')*2,none⟩) (len+len' - (n+len')) dc,.slice (some ⟨L.blk,L.sh+off+n*2,none⟩) (len+len' - n) sc]).run Try.prog w.drew = .ok (goInt ((min (len+len' - n) (len+len' - (n+len')):Nat):Int)) (w.drew.setRow L.blk c1.toArray):=fun ty dc sc=>by
          rw [ec1]
          exact run_copy_k (w:=w.drew) tS sizeE (by rw [od,Nat.min_eq_right (by omega)];congr 1;omega) (fun j v hj=>by
            rw [List.getElem?_drop] at hj
            obtain ⟨_,h2⟩:=olget _ v hj
            rw [Addr.add_lit]
            show w.cell? _=_
            rw [show L.sh+off+n*2+j=L.sh+off+(n*2+j) by omega]
            simp [World.cell?,hh];simpa using h2) hh (by omega) oneO
        have hcp2:∀ ty dc,(Builtin.copy_ #[73,73] ty #[.slice (some ⟨L.blk,L.sh+off+n*2,none⟩) (len+len' - n) dc,.slice (some ⟨L'.blk,L'.sh+off',none⟩) len' cap']).run Try.prog (w.drew.setRow L.blk c1.toArray) = .ok (goInt ((min len' (len+len' - n):Nat):Int)) ((w.drew.setRow L.blk c1.toArray).setRow L.blk (spl c1 (L.sh+off+n*2) vals).toArray):=fun ty dc =>
          run_copy_k (cur:=c1.toArray) tS sizeE (by rw [hvl,Nat.min_eq_left (by omega)]) (fun j v hj=>by
            rw [cell_heap (w:=w) (by rw [Addr.add_lit];exact setRow_keep _ _ _ _ bne)]
            exact hcells j v hj) hh1 (by rw [List.size_toArray];omega) rn.one
        refine (ins_shift L.blk (L.sh+off) len cap n L'.blk (L'.sh+off') len' cap' w _ _ _ _ hnlt g3 hroom hmost hov hcp1 hcp2).mono ?_
        rintro ee w' ⟨rfl,rfl⟩
        refine fin_move (te:=e) (c:=(spl c1 (L.sh+off+n*2) vals).toArray) H wf hfn hid hL a4 (setRow_heap _ L.blk c1.toArray _ e _ hh1) (by rw [size_setRow,size_setRow];rfl) (fun b hb=>by rw [setRow_keep _ _ _ _ hb,setRow_keep _ _ _ _ hb];rfl) rfl rfl rfl hroom hlim (by rw [nclen];omega) (by rw [List.size_toArray,spl_len hsp2];omega) (fun k x hx=>?_)
        obtain ⟨v,hv,rv⟩:=rall.get k x hx
        refine ⟨v,?_,rv⟩
        rw [List.getElem?_toArray,spl_get hsp2]
        rcases all_get k v hv with ⟨k1,k2⟩ | ⟨k1,k2,k3⟩ | ⟨k1,k2,k3⟩
        · rw [if_pos (by omega),ec1,spl_get hsp1,if_pos (by omega)]
          simpa using (olget k v k2).2
        · rw [if_neg (by omega),if_pos (by omega),← k3];congr 1;omega
        · rw [if_neg (by omega),if_neg (by omega),ec1,spl_get hsp1,if_neg (by omega),if_pos (by omega),← k3];congr 1;omega
      · -- there is none
        have hgi:=grownCap_ge w (len+len') cap 95
        obtain ⟨g,hg⟩:∃ g,g=grownCap w (len+len') cap 95:=⟨_,rfl⟩
        have hgmax:=grownCap_le_maxLen w (len+len') cap 95 (by unfold maxLen;omega)
        obtain ⟨ROW,hROW⟩:∃ ROW:Array Value,ROW=(olds.take (n*2)).toArray++Builtin.zeroCells (Value.agg #[.int .i64 0,.int .i64 0]).cells (len+len' - n)++Builtin.zeroCells (Value.agg #[.int .i64 0,.int .i64 0]).cells (g-(len+len')):=⟨_,rfl⟩
        rw [← hg] at hgi hgmax
        have hRs:ROW.size=g*2:=by rw [hROW];simp only [Array.size_append,List.size_toArray,zs,ot];omega
        have hold:(Builtin.firstCells ti.size n (.slice (some ⟨L.blk,L.sh+off,none⟩) n cap)).run Try.prog w.drew = .ok (olds.take (n*2)).toArray w.drew:=by
          rw [hsz]
          exact run_firstCells_some w.drew 2 n ⟨L.blk,L.sh+off,none⟩ n cap (olds.take (n*2)) ot (fun j v hj=>by
            rw [Addr.add_lit]
            rw [List.getElem?_take] at hj
            split at hj
            · obtain ⟨_,h2⟩:=olget _ v hj
              show w.cell? _=_
              simp [World.cell?,hh];simpa using h2
            · cases hj)
        have hrz:∀ ty,(Builtin.append_ #[73,3] ty #[.slice (some ⟨L.blk,L.sh+off,none⟩) n cap,.int .i64 ((len:Int)+(len':Int)-(n:Int))]).run Try.prog w = .ok (.slice (some ⟨w.heap.size,0,none⟩) (len+len') g) (w.drew.alloc (.cells ROW 95)):=fun ty=>by
          have h:=Lib.run_append_grow_zeros w 73 3 ty 95 ti _ .i64 .i64 tS tI hi hz (some ⟨L.blk,L.sh+off,none⟩) n cap (olds.take (n*2)) hold (len+len' - n) (by omega) (by omega) (by omega) (by omega) (by rw [hby];omega) (by rw [hby,show n+(len+len' - n)=len+len' by omega];exact growslice_fits (by omega) (by omega))
          rw [show n+(len+len' - n)=len+len' by omega,← hg,← hROW] at h
          rw [show (len:Int)+(len':Int)-(n:Int)=((len+len' - n:Nat):Int) by omega]
          exact h
        have hRl:ROW.toList.length=g*2:=by rw [Array.length_toList,hRs]
        have hspA:n*2+vals.length≤ROW.toList.length:=by omega
        obtain ⟨RA,hRA⟩:∃ RA,RA=spl ROW.toList (n*2) vals:=⟨_,rfl⟩
        have RAl:RA.length=g*2:=by rw [hRA,spl_len hspA,hRl]
        have hspB:(n+len')*2+(olds.drop (n*2)).length≤RA.length:=by omega
        have hW1:(w.drew.alloc (.cells ROW 95)).heap[w.heap.size]? = some (.cells ROW 95 (0,0)):=alloc_new' w.drew _
        have hold':∀ b,b<w.heap.size→(w.drew.alloc (.cells ROW 95)).heap[b]? = w.heap[b]?:=fun b hb=>alloc_old' w.drew _ b hb
        have hW2:((w.drew.alloc (.cells ROW 95)).setRow w.heap.size RA.toArray).heap[w.heap.size]? = some (.cells RA.toArray 95 (0,0)):=setRow_heap _ _ ROW _ 95 _ hW1
        have hcpA:∀ W:World,W.heap=(w.drew.alloc (.cells ROW 95)).heap→∀ ty dc,(Builtin.copy_ #[73,73] ty #[.slice (some ⟨w.heap.size,n*2,none⟩) (len+len' - n) dc,.slice (some ⟨L'.blk,L'.sh+off',none⟩) len' cap']).run Try.prog W = .ok (goInt ((min len' (len+len' - n):Nat):Int)) (W.setRow w.heap.size RA.toArray):=fun W hW ty dc=>by
          rw [hRA]
          exact run_copy_k (cur:=ROW) tS sizeE (by rw [hvl,Nat.min_eq_left (by omega)]) (fun j v hj=>by
            rw [cell_heap (w:=w) (by rw [Addr.add_lit,hW];exact hold' _ vlt)]
            exact hcells j v hj) (by rw [hW];exact hW1) (by omega) rn.one
        have hcpB:∀ W:World,W.heap=((w.drew.alloc (.cells ROW 95)).setRow w.heap.size RA.toArray).heap→∀ ty dc sc,(Builtin.copy_ #[73,73] ty #[.slice (some ⟨w.heap.size,(n+len')*2,none⟩) (len+len' - (n+len')) dc,.slice (some ⟨L.blk,L.sh+off+n*2,none⟩) (len-n) sc]).run Try.prog W = .ok (goInt ((min (len-n) (len+len' - (n+len')):Nat):Int)) (W.setRow w.heap.size (spl RA ((n+len')*2) (olds.drop (n*2))).toArray):=fun W hW ty dc sc =>
          run_copy_k (cur:=RA.toArray) tS sizeE (by rw [od,Nat.min_eq_left (by omega)]) (fun j v hj=>by
            rw [List.getElem?_drop] at hj
            obtain ⟨_,h2⟩:=olget _ v hj
            rw [Addr.add_lit,cell_heap (w:=w) (by show W.heap[L.blk]? = w.heap[L.blk]?;rw [hW,setRow_keep _ _ _ _ (by omega)];exact hold' _ blt),show L.sh+off+n*2+j=L.sh+off+(n*2+j) by omega]
            simp [World.cell?,hh];simpa using h2) (by rw [hW];exact hW2) (by rw [List.size_toArray];exact hspB) oneO
        refine (ins_grow L.blk (L.sh+off) len cap n L'.blk (L'.sh+off') len' cap' g w ROW _ _ _ _ hnlt g3 hle (by omega) hmost hgi (by unfold maxLen at hgmax;omega) hrz hcpA hcpB).mono ?_
        rintro ee w' ⟨rfl,hwh,k1,k2,k3⟩
        have hW3:w'.heap[w.heap.size]? = some (.cells (spl RA ((n+len')*2) (olds.drop (n*2))).toArray 95 (0,0)):=by rw [hwh];exact setRow_heap _ _ RA.toArray _ 95 _ hW2
        refine fin_new (te:=95) (dead:=fun j=>Nat.beq j id) H wf hfn hb (hdead _) rfl hW3 (by rw [hwh,size_setRow,size_setRow];simp) (fun b hb=>by rw [hwh,setRow_keep _ _ _ _ (by omega),setRow_keep _ _ _ _ (by omega)];exact hold' b hb) k1 k2 k3 hgi (by rw [nclen];omega) (by rw [List.size_toArray,spl_len hspB];omega) (fun k x hx=>?_)
        obtain ⟨v,hv,rv⟩:=rall.get k x hx
        refine ⟨v,?_,rv⟩
        rw [List.getElem?_toArray,spl_get hspB]
        rcases all_get k v hv with ⟨k1,k2⟩ | ⟨k1,k2,k3⟩ | ⟨k1,k2,k3⟩
        · rw [if_pos (by omega),hRA,spl_get hspA,if_pos k1,hROW,Array.getElem?_toList,Array.append_assoc,Array.getElem?_append_left (by simp only [List.size_toArray];omega),List.getElem?_toArray,List.getElem?_take,if_pos k1]
          exact k2
        · rw [if_pos (by omega),hRA,spl_get hspA,if_neg (by omega),if_pos (by omega)]
          exact k3
        · rw [if_neg (by omega),if_pos (by omega)]
          exact k3
theorem zvE (w:World):(zeroValue 95).run Try.prog w = .ok (Value.agg #[.int .i64 0,.int .i64 0]) w:=by
  obtain ⟨i,h1,h2,_⟩:=infoE
  simp [zeroValue,typeInfo,h1,h2]
set_option maxRecDepth 100000 in
theorem del_ok:PrimOk Try.prog 85 (.del 2 [.int .i64 0,.int .i64 0]):=by
  intro base f args G vs G' h
  dsimp only at h
  split at h
  case isFalse=>cases h
  rename_i hf
  subst hf
  rcases prim_some h with ⟨_,_,_,_,_,_,_,_,_,hq,_⟩ | ⟨es,zero,id,off,len,i,j,hq,ha,h⟩
  case inl=>cases hq
  cases hq
  subst ha
  obtain ⟨g1,g2,g3,cs,hcs,hle,rfl,rfl⟩:=del_some h
  refine ⟨⟨Try.f85,Try.func85,(fun h=>by cases h),by decide,rfl⟩,fun φ w argv H wf hb fresh ra=>?_⟩
  obtain ⟨v1,z1,e1,r1,ra⟩:=ra.uncons
  obtain ⟨v2,z2,e2,r2,ra⟩:=ra.uncons
  obtain ⟨v3,z3,e3,r3,ra⟩:=ra.uncons
  rw [e2,e3,ra.nil_inv] at e1
  have:=arr3 e1
  subst this
  clear e1 e2 e3 ra
  obtain ⟨n,rfl⟩:∃ n:Nat,i=(n:Int):=⟨i.toNat,by omega⟩
  obtain ⟨k,rfl⟩:∃ k:Nat,j=(k:Int):=⟨j.toNat,by omega⟩
  have r2:v2 = .int .i64 (n:Int):=r2
  have r3:v3 = .int .i64 (k:Int):=r3
  subst r2
  subst r3
  simp only [Int.toNat_natCast]
  obtain ⟨ti,hi,hz,hsz,hby⟩:=infoE
  have hid:=own_row hcs
  have h0:id≠0:=by rintro rfl;rw [H.zero] at hid;cases hid
  obtain ⟨L,o1,cap,hL,hv1,hlc,hcap⟩:∃ (L:Loc) (o1 cap:Nat),φ id=some L∧v1 = .slice (some ⟨L.blk,o1,none⟩) len cap∧len≤cap∧((o1=L.sh+off∧o1+cap*2=L.lim)∨(cap=0∧L.sh+off=L.lim)):=by
    rcases r1 with ⟨k,_⟩ | ⟨_,L,o1,cap,k⟩
    · exact absurd k h0
    · exact ⟨L,o1,cap,k⟩
  subst hv1
  obtain ⟨rfl,hlim⟩:o1=L.sh+off∧o1+cap*2=L.lim:=by
    rcases hcap with k | ⟨k,_⟩
    · exact k
    · omega
  obtain ⟨c,e,hh,a1,a2,a3,a4⟩:=row_cells H hid hL
  have hcl:c.toList.length=c.size:=Array.length_toList
  obtain ⟨news,hnews⟩:∃ news,news=(c.toList.drop (L.sh+off+k*2)).take ((len-k)*2):=⟨_,rfl⟩
  have nl:news.length=(len-k)*2:=by rw [hnews];simp only [List.length_take,List.length_drop];omega
  have rn:R2 (CRel φ) ((cs.drop (off+k*2)).take ((len-k)*2)) news:=⟨by rw [nl];simp only [List.length_take,List.length_drop];omega,fun t x hx=>by
    rw [List.getElem?_take] at hx
    split at hx
    · rename_i ht
      rw [List.getElem?_drop] at hx
      obtain ⟨v,hv,rv⟩:=a3 _ x hx
      refine ⟨v,?_,rv⟩
      rw [hnews,List.getElem?_take,if_pos ht,List.getElem?_drop,← hv,Array.getElem?_toList]
      congr 1;omega
    · cases hx⟩
  have rz:R2 (CRel φ) (reps (k-n) [.int .i64 0,.int .i64 0]) (List.replicate ((k-n)*2) (Value.int .i64 0)):=by rw [reps2];exact R2.rep (R:=CRel φ) (x:=Cell.int .i64 0) (y:=Value.int .i64 0) rfl _
  have rall:=rn.append rz
  have hspn:L.sh+off+n*2+news.length≤c.toList.length:=by omega
  have hspz:L.sh+off+n*2+news.length+(List.replicate ((k-n)*2) (Value.int .i64 0)).length≤c.toList.length:=by rw [List.length_replicate];omega
  obtain ⟨A,hA⟩:∃ A,(if cap=k then (⟨L.blk,L.sh+off,none⟩:Addr) else ⟨L.blk,L.sh+off+k*2,none⟩)=A:=⟨_,rfl⟩
  have hap:∀ ty,(Builtin.append_ #[73,73] ty #[.slice (some ⟨L.blk,L.sh+off,none⟩) n cap,.slice (some A) (len-k) (cap-k)]).run Try.prog w.drew = .ok (.slice (some ⟨L.blk,L.sh+off,none⟩) (n+(len-k)) cap) (w.drew.setRow L.blk (spl c.toList (L.sh+off+n*2) news).toArray):=fun ty=>by
    have:=app_room (P:=Try.prog) (w:=w.drew) (ty:=ty) (sLen:=n) (sCap:=cap) (off:=L.sh+off) (b:=A) (news:=news) (m:=len-k) (c:=cap-k) tS tS hi hh (by rw [hsz];exact nl) (fun t v ht=>by
      have htl:=(List.getElem?_eq_some_iff.1 ht).1
      rw [← hA,if_neg (by omega),Addr.add_lit]
      show w.cell? _=_
      rw [hnews,List.getElem?_take,if_pos (by omega),List.getElem?_drop] at ht
      simp [World.cell?,hh];simpa using ht) rn.one (by omega) (by rw [hsz];omega)
    rw [hsz] at this
    exact this
  have hh1:(w.drew.setRow L.blk (spl c.toList (L.sh+off+n*2) news).toArray).heap[L.blk]? = some (.cells (spl c.toList (L.sh+off+n*2) news).toArray e (0,0)):=setRow_heap w.drew L.blk c _ e _ hh
  have hnz:(Builtin.zeroCells (Value.agg #[.int .i64 0,.int .i64 0]).cells (len-(n+(len-k)))).toList=List.replicate ((k-n)*2) (Value.int .i64 0):=by
    rw [show len-(n+(len-k))=k-n by omega]
    exact zeros2 _
  have hcl2:∀ ty,(Builtin.clear_ #[73] ty #[.slice (some ⟨L.blk,L.sh+off+(n+(len-k))*2,none⟩) (len-(n+(len-k))) (cap-(n+(len-k)))]).run Try.prog (w.drew.setRow L.blk (spl c.toList (L.sh+off+n*2) news).toArray) = .ok (.tuple #[]) ((w.drew.setRow L.blk (spl c.toList (L.sh+off+n*2) news).toArray).setRow L.blk (spl (spl c.toList (L.sh+off+n*2) news) (L.sh+off+(n+(len-k))*2) (List.replicate ((k-n)*2) (Value.int .i64 0))).toArray):=fun ty =>
    run_clear_k (cur:=(spl c.toList (L.sh+off+n*2) news).toArray) tS zvE hnz (by intro v hv;rw [List.eq_of_mem_replicate hv];rfl) (by omega) hh1 (by rw [List.size_toArray,spl_len hspn,List.length_replicate];omega)
  rw [setRow_setRow,show L.sh+off+(n+(len-k))*2=L.sh+off+n*2+news.length by omega,spl_spl hspz] at hcl2
  refine (del_walk L.blk (L.sh+off) len cap n k w _ _ A (by omega) (by omega) hlc hA hap (by rw [show L.sh+off+(n+(len-k))*2=L.sh+off+n*2+news.length by omega];exact hcl2)).mono ?_
  · rintro ee w' ⟨rfl,rfl⟩
    refine ⟨φ,_,rfl,.inr ⟨h0,L,L.sh+off,cap,hL,by rw [show n+(len-k)=len-(k-n) by omega],by omega,.inl ⟨rfl,hlim⟩⟩,?_⟩
    have hnl:((cs.drop (off+k*2)).take ((len-k)*2)++reps (k-n) [.int .i64 0,.int .i64 0]).length=(len-k)*2+(k-n)*2:=by rw [rall.len,List.length_append,nl,List.length_replicate]
    have:=row_over (off:=off+n*2) H wf hcs hL (by rw [hnl];omega) rall hh a1 a2 a3 a4
    rw [← Nat.add_assoc] at this
    exact this.drew
end Pr
end Go.Proofs.D
namespace Go.Proofs.D
abbrev F43.id:Nat:=35
abbrev F86.id:Nat:=36
abbrev F73.id:Nat:=53
abbrev F52.id:Nat:=37
abbrev F74.id:Nat:=38
abbrev F87.id:Nat:=15
abbrev F60.id:Nat:=80
abbrev F53.id:Nat:=71
abbrev F75.id:Nat:=59
abbrev F61.id:Nat:=44
abbrev F62.id:Nat:=24
abbrev F76.id:Nat:=9
abbrev F36.id:Nat:=60
abbrev F63.id:Nat:=46
abbrev F17.id:Nat:=31
abbrev F64.id:Nat:=74
abbrev F18.id:Nat:=67
abbrev F23.id:Nat:=65
abbrev F54.id:Nat:=39
abbrev F44.id:Nat:=72
abbrev F3.id:Nat:=103
abbrev F4.id:Nat:=104
abbrev F65.id:Nat:=94
abbrev F88.id:Nat:=95
abbrev F77.id:Nat:=96
abbrev F66.id:Nat:=97
abbrev F78.id:Nat:=87
abbrev F55.id:Nat:=86
abbrev F79.id:Nat:=98
abbrev F45.id:Nat:=88
abbrev F67.id:Nat:=79
abbrev F2.id:Nat:=83
abbrev F56.id:Nat:=78
abbrev F46.id:Nat:=105
abbrev F37.id:Nat:=99
abbrev F24.id:Nat:=89
abbrev F38.id:Nat:=81
abbrev F39.id:Nat:=91
abbrev F68.id:Nat:=84
abbrev F0.id:Nat:=90
abbrev F80.id:Nat:=82
abbrev F47.id:Nat:=73
abbrev F5.id:Nat:=52
abbrev F48.id:Nat:=30
abbrev F69.id:Nat:=32
abbrev F31.id:Nat:=75
abbrev F70.id:Nat:=76
abbrev F25.id:Nat:=61
abbrev F26.id:Nat:=47
abbrev F12.id:Nat:=27
abbrev F81.id:Nat:=62
abbrev F32.id:Nat:=49
abbrev F57.id:Nat:=48
abbrev F15.id:Nat:=28
abbrev F1.id:Nat:=85
abbrev F71.id:Nat:=77
abbrev F33.id:Nat:=66
abbrev F27.id:Nat:=51
abbrev F58.id:Nat:=63
abbrev F6.id:Nat:=64
abbrev F13.id:Nat:=50
abbrev F19.id:Nat:=29
abbrev F40.id:Nat:=13
abbrev F20.id:Nat:=6
abbrev F21.id:Nat:=7
abbrev F8.id:Nat:=23
abbrev F9.id:Nat:=8
abbrev F28.id:Nat:=10
abbrev F7.id:Nat:=25
abbrev F10.id:Nat:=11
abbrev F29.id:Nat:=45
abbrev F11.id:Nat:=26
abbrev F16.id:Nat:=12
abbrev F30.id:Nat:=33
abbrev F34.id:Nat:=34
abbrev F14.id:Nat:=14
abbrev hodmantop_TopBytes.id:Nat:=3
abbrev F50.id:Nat:=92
abbrev F22.id:Nat:=93
abbrev F35.id:Nat:=102
abbrev oP (i d:Nat) (x:DOp):DO:=⟨i,some d,x,none⟩
abbrev mV (i d s:Nat):DO:=⟨i,some d,.move (.t s),none⟩
abbrev iS (n:Nat):List Sh:=List.replicate n (.int .i64)
abbrev zI (n:Nat):List Cell:=List.replicate n (.int .i64 0)
abbrev sA:List Sh:=[.int .i64,.int .i64,.int .i64,.int .u8,.int .i64,.int .i64,.int .i64,.int .i64]
abbrev zA:List Cell:=[.int .i64 0,.int .i64 0,.int .i64 0,.int .u8 0,.int .i64 0,.int .i64 0,.int .i64 0,.int .i64 0]
abbrev kI (n:Int):Src:=.k (.c (.int .i64 n))
abbrev kB (b:Bool):Src:=.k (.c (.bool b))
abbrev vI (n:Int):TV:=.v (.c (.int .i64 n))
abbrev vB (b:Bool):TV:=.v (.c (.bool b))
abbrev vP (i o:Nat):TV:=.v (.c (.ptr i o))
abbrev vS (k i o n:Nat):TV:=.v (.c (.sl k i o n))
def uS:Nat→List TV→List TV
  | 0,l=>l
  | n+1,l=>.und::uS n l
end Go.Proofs.D
