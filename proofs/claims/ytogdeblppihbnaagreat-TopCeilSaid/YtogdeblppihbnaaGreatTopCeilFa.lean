/- Texts of the proof (Den, DSem, DOm, DRel, DOk, DOps, DOps2, DOps3, DOps4, DOps5, DOps6, DOps7, DOps8, DOps9, DReg); no condition. -/
import Derived.Calls
import Derived.Orders
import Derived.Below
import Derived.Laws.AppendOwn
import Derived.Laws.CopyRow
import Derived.Laws.Entries
import Derived.Laws.Tables
import Derived.Laws.StructEq
import Derived.Great.BuildSlice
import Derived.Laws.MakeOwn
import Derived.Laws.OwnMore
import Derived.Laws.Slices
import Derived.Laws.Append
import Derived.Laws.IdiomCopy
import Derived.Lib.ConvBytes
set_option linter.unusedSimpArgs false
set_option linter.unusedVariables false
set_option linter.unusedVariables false
/- An abstract machine for the operations that these programs use: whole values,rows and maps by number;no order,no capacity. -/
namespace Go.Proofs.D
open Go

inductive Sh where
  | int (k:IntKind) | bool | ptr | sl (es:Nat) | map | fn | str
  deriving DecidableEq,Repr
inductive Cell where
  | int (k:IntKind) (n:Int) | bool (b:Bool) | ptr (id off:Nat) | sl (es id off len:Nat) | map (id:Nat) | fn (f:Nat) | str (l:List UInt8)
  deriving DecidableEq,Repr
inductive V1 where
  | c (x:Cell) | agg (cs:List Cell)
  deriving DecidableEq,Repr
inductive VS where
  | c (s:Sh) | agg (ss:List Sh)
  deriving DecidableEq,Repr
inductive TV where
  | und | no | v (x:V1) | tup (vs:List V1) | pt (id off:Nat) | box (cs:List Cell) | ref (b off:Nat)
  deriving DecidableEq,Repr
abbrev TV.c (x:Cell):TV:=.v (.c x)
abbrev TV.agg (x:List Cell):TV:=.v (.agg x)
abbrev TM:=List TV

inductive Obj where
  | row (cs:List Cell) (fz:Bool) | map (ks:VS) (es:List (V1×V1)) | lit (cs:List Cell)
  deriving Repr

inductive Tr where
  | e | n (l:Tr) (v:Option Obj) (r:Tr)
  deriving Repr
def Tr.get:Tr→Nat→Option Obj
  | .e,_=>none
  | .n l v r,k=>match k with
    | 0=>v
    | k+1=>match k % 2 with
      | 0=>l.get (k / 2)
      | _=>r.get (k / 2)
def Tr.set:Nat→Tr→Nat→Option Obj→Tr
  | 0,t,_,_=>t
  | f+1,t,k,o =>
    let l:=match t with | .e=>.e | .n l _ _=>l
    let v:=match t with | .e=>none | .n _ v _=>v
    let r:=match t with | .e=>.e | .n _ _ r=>r
    match k with
    | 0=>.n l o r
    | k+1=>match k % 2 with
      | 0=>.n (Tr.set f l (k / 2) o) v r
      | _=>.n l v (Tr.set f r (k / 2) o)

structure GH where
  tree:Tr
  next:Nat
  deriving Repr
def GH.get (G:GH) (id:Nat):Option Obj:=G.tree.get id
def GH.set (G:GH) (id:Nat) (o:Option Obj):GH:={ G with tree:=G.tree.set (id+1) id o }
def GH.alloc (G:GH) (o:Obj):GH:={ tree:=G.tree.set (G.next+1) G.next (some o),next:=G.next+1 }
def GH.row (G:GH) (id:Nat):Option (List Cell):=match G.get id with
  | some (.row cs _)=>some cs
  | some (.lit cs)=>some cs
  | _=>none
def GH.own (G:GH) (id:Nat):Option (List Cell):=match G.get id with
  | some (.row cs false)=>some cs
  | _=>none
def GH.ents (G:GH) (ks:VS) (id:Nat):Option (List (V1×V1)):=match G.get id with
  | some (.map ks' es)=>if ks' = ks then some es else none
  | _=>none
def shOk:List Sh→List Cell→Bool
  | [],[]=>true
  | .int k::ss,.int k' _::cs=>decide (k=k')&&shOk ss cs
  | _,_=>false
def keyOk:VS→V1→Bool
  | .c s,.c x=>shOk [s] [x]
  | .agg ss,.agg cs=>shOk ss cs
  | _,_=>false
def GH.ld (G:GH) (id off:Nat):Option Cell:=(G.row id).bind fun cs=>cs[off]?
def GH.lds (G:GH) (id off n:Nat):Option (List Cell):=(G.row id).bind fun cs=>if off+n≤cs.length then some ((cs.drop off).take n) else none
def splice (cs:List Cell) (off:Nat) (new:List Cell):List Cell:=cs.take off++new++cs.drop (off+new.length)
def GH.sts (G:GH) (id off:Nat) (new:List Cell):Option GH :=
  (G.own id).bind fun cs=>if off+new.length≤cs.length then some (G.set id (some (.row (splice cs off new) false))) else none

def Cell.asI (k:IntKind):Cell→Option Int
  | .int k' n=>if k' = k then some n else none
  | _=>none
def Cell.asB:Cell→Option Bool
  | .bool b=>some b
  | _=>none
def Cell.asP:Cell→Option (Nat×Nat)
  | .ptr a b=>some (a,b)
  | _=>none
def Cell.asS (es:Nat):Cell→Option (Nat×Nat×Nat)
  | .sl e a b c=>match Nat.beq e es with
    | true=>some (a,b,c)
    | false=>none
  | _=>none
def Cell.asSl:Cell→Option (Nat×Nat)
  | .sl _ a _ c=>some (a,c)
  | _=>none
def Cell.asM:Cell→Option Nat
  | .map a=>some a
  | _=>none
def Cell.asF:Cell→Option Nat
  | .fn a=>some a
  | _=>none
def Cell.asT:Cell→Option (List UInt8)
  | .str a=>some a
  | _=>none
section cps
variable {R:Type}
def shK (s:Sh) (x:Option Cell) (K:Cell→Option R):Option R:=match s with
  | .int k=>(x.bind (Cell.asI k)).bind fun n=>K (.int k n)
  | .bool=>(x.bind Cell.asB).bind fun b=>K (.bool b)
  | .ptr=>(x.bind Cell.asP).bind fun p=>K (.ptr p.1 p.2)
  | .sl es=>(x.bind (Cell.asS es)).bind fun p=>K (.sl es p.1 p.2.1 p.2.2)
  | .map=>(x.bind Cell.asM).bind fun m=>K (.map m)
  | .fn=>(x.bind Cell.asF).bind fun m=>K (.fn m)
  | .str=>(x.bind Cell.asT).bind fun m=>K (.str m)
def shsK (at_:Nat→Option Cell) (K:List Cell→Option R):List Sh→Nat→Option R
  | [],_=>K []
  | s::ss,i=>shK s (at_ i) fun c=>shsK at_ (fun cs=>K (c::cs)) ss (i+1)
def V1.c?:V1→Option Cell
  | .c x=>some x
  | _=>none
def V1.a?:V1→Option (List Cell)
  | .agg cs=>some cs
  | _=>none
def vsK (s:VS) (x:Option V1) (K:V1→Option R):Option R:=match s with
  | .c s=>shK s (x.bind V1.c?) fun c=>K (.c c)
  | .agg ss=>(x.bind V1.a?).bind fun cs=>if cs.length=ss.length then shsK (fun i=>cs[i]?) (fun cs=>K (.agg cs)) ss 0 else none
def resK (at_:Nat→Option V1) (K:List V1→Option R):List VS→Nat→Option R
  | [],_=>K []
  | s::ss,i=>vsK s (at_ i) fun v=>resK at_ (fun vs=>K (v::vs)) ss (i+1)
end cps

inductive Src where
  | t (n:Nat) | k (v:V1)
  deriving DecidableEq,Repr
inductive Bin where
  | add | sub | mul | quo | rem | and | or | xor | andNot | shl | shr
  deriving DecidableEq,Repr
inductive Cmp where
  | eql | neq | lss | leq | gtr | geq
  deriving DecidableEq,Repr

inductive DOp where
  | move (x:Src)
  | nilck (x:Src)
  | pick (c a b:Src)
  | boxz (b:Nat) (ders:List Nat) (cs:List Cell)
  | boxv (b:Nat) (ders:List Nat) (x:Src) (n:Nat)
  | newz (cs:List Cell)
  | newv (x:Src) (n:Nat)
  | build (zero:List Cell) (parts:List (Nat×Nat×Src))
  | bslice (len es:Nat) (zero:List Cell) (parts:List (Nat×Nat×Src))
  | ldL (a:Nat) (b:Nat) (s:VS)
  | ldG (a:Nat) (s:VS)
  | stL (a:Nat) (b:Nat) (x:Src) (n:Nat)
  | stG (a:Nat) (x:Src) (n:Nat)
  | faddr (a:Nat) (off:Nat)
  | iaddr (x i:Src) (es:Nat)
  | iaddrA (a:Nat) (i:Src) (len es:Nat)
  | bin (op:Bin) (k:IntKind) (x y:Src)
  | cmp (op:Cmp) (k:IntKind) (x y:Src)
  | beq (neg:Bool) (x y:Src)
  | aeq (neg:Bool) (ss:List Sh) (x y:Src)
  | pnil (neg:Bool) (x:Src)
  | snil (neg:Bool) (x:Src)
  | not (x:Src)
  | conv (k:IntKind) (x:Src)
  | slice (x:Src) (lo hi:Option Src) (es:Nat)
  | mkslice (len:Src) (es bytes:Nat) (zero:List Cell)
  | len (x:Src)
  | app (x y:Src) (es bytes:Nat)
  | copy (x y:Src) (es:Nat)
  | clear (x:Src) (zero:List Cell)
  | mkmap (ks:VS)
  | lkup (ks:VS) (m key:Src) (zero:V1) (s:VS) (ok:Bool)
  | mupd (ks:VS) (m key x:Src)
  | del (ks:VS) (m key:Src)
  | mlen (ks:VS) (m:Src)
  | ext (x:Nat) (i:Nat)
  | fld (x:Src) (off n:Nat) (agg:Bool)
  | mx (x:Src) (xs:List Src)
  | mn (x:Src) (xs:List Src)
  | call (f:Nat) (args:List Src) (rs:List VS)
  | callT (x:Src) (args:List Src) (rs:List VS)
  | sbytes (x:Src)
  | reG (d a:Nat) (s:VS)
  | reK (d:Nat) (ks:VS) (m key:Src) (zero:V1) (s:VS) (ok:Bool)
  deriving Repr

abbrev Res:=List V1×GH
abbrev Call:=Nat→List V1→GH→Option Res

def TV.v?:TV→Option V1
  | .v x=>some x
  | .pt id off=>some (.c (.ptr id off))
  | _=>none
def Src.get (tm:TM):Src→Option V1
  | .k v=>some v
  | .t n=>(tm[n]?).bind TV.v?
def Src.cell (tm:TM) (x:Src):Option Cell:=(x.get tm).bind V1.c?
def V1.cells:V1→List Cell
  | .c x=>[x]
  | .agg cs=>cs
def getAll (tm:TM):List Src→Option (List V1)
  | []=>some []
  | x::xs=>(x.get tm).bind fun v=>(getAll tm xs).bind fun vs=>some (v::vs)
def fillD (tm:TM) (zero:List Cell):List (Nat×Nat×Src)→Option (List Cell)
  | []=>some zero
  | (off,n,x)::ps=>(x.get tm).bind fun v =>
    match Nat.beq v.cells.length n&&Nat.ble (off+n) zero.length with
    | true=>fillD tm (splice zero off v.cells) ps
    | false=>none
def binD (op:Bin) (k:IntKind) (x y:Int):Option Int:=match op with
  | .add=>some (k.wrap (x+y))
  | .sub=>some (k.wrap (x-y))
  | .mul=>some (k.wrap (x*y))
  | .quo=>if y=0 then none else some (k.wrap (x.tdiv y))
  | .rem=>if y=0 then none else some (x.tmod y)
  | .and=>some (k.wrap (BitVec.ofInt k.bits x &&& BitVec.ofInt k.bits y).toNat)
  | .or=>some (k.wrap (BitVec.ofInt k.bits x ||| BitVec.ofInt k.bits y).toNat)
  | .xor=>some (k.wrap (BitVec.ofInt k.bits x ^^^ BitVec.ofInt k.bits y).toNat)
  | .andNot=>some (k.wrap (BitVec.ofInt k.bits x &&& ~~~ BitVec.ofInt k.bits y).toNat)
  | .shl=>if y<0 then none else some (k.wrap (x*2 ^ (min y.toNat k.bits)))
  | .shr=>if y<0 then none else some (x.fdiv (2 ^ (min y.toNat k.bits)))
def cmpD (op:Cmp) (x y:Int):Bool:=match op with
  | .eql=>decide (x=y)
  | .neq=>!decide (x=y)
  | .lss=>decide (x<y)
  | .leq=>decide (x≤y)
  | .gtr=>decide (x>y)
  | .geq=>decide (x≥y)
def cellEq:Sh→Cell→Cell→Option Bool
  | .int _,.int k x,.int k' y=>if k=k' then some (decide (x=y)) else none
  | .bool,.bool x,.bool y=>some (x == y)
  | _,_,_=>none
def cellsEq:List Sh→List Cell→List Cell→Option Bool
  | [],[],[]=>some true
  | s::ss,x::xs,y::ys=>(cellEq s x y).bind fun a=>(cellsEq ss xs ys).bind fun b=>some (a&&b)
  | _,_,_=>none
def mx2 (x y:Int):Int:=if y>x then y else x
def mn2 (x y:Int):Int:=if y<x then y else x
def reps (n:Nat) (zero:List Cell):List Cell:=(List.replicate n zero).flatten
def most:Nat:=2 ^ 40
def GH.app (G:GH) (id off len es:Nat) (m:Nat) (new:List Cell):Option (Nat×Nat×GH) :=
  if m=0 then some (id,off,G)
  else if id=0 then some (G.next,0,G.alloc (.row new false))
  else (G.own id).bind fun cs =>
    if off+len*es=cs.length then some (G.next,0,(G.set id none).alloc (.row (cs.drop off++new) false))
    else if off+len*es+new.length≤cs.length then some (id,off,G.set id (some (.row (splice cs (off+len*es) new) false)))
    else none
def mapGet (es:List (V1×V1)) (key:V1):Option V1:=match es with
  | []=>none
  | (a,b)::es=>if a=key then some b else mapGet es key
def mapPut (es:List (V1×V1)) (key x:V1):List (V1×V1):=match es with
  | []=>[(key,x)]
  | (a,b)::es=>if a=key then (key,x)::es else (a,b)::mapPut es key x
def mapDel (es:List (V1×V1)) (key:V1):List (V1×V1):=match es with
  | []=>[]
  | (a,b)::es=>if a=key then es else (a,b)::mapDel es key
def GH.ents0 (G:GH) (ks:VS) (id:Nat):Option (List (V1×V1)):=if id=0 then some [] else G.ents ks id

section ops
variable {R:Type}
def iK (tm:TM) (k:IntKind) (x:Src) (K:Int→Option R):Option R:=((x.cell tm).bind (Cell.asI k)).bind K
def sK (tm:TM) (es:Nat) (x:Src) (K:Nat→Nat→Nat→Option R):Option R:=((x.cell tm).bind (Cell.asS es)).bind fun p=>K p.1 p.2.1 p.2.2
def intAny:Cell→Option (IntKind×Int)
  | .int k n=>some (k,n)
  | _=>none
def natK (tm:TM) (x:Src) (K:Int→Option R):Option R:=((x.cell tm).bind intAny).bind fun p=>K p.2
def guardK (b:Bool) (K:Option R):Option R:=match b with
  | true=>K
  | false=>none
def chk (b:Bool) (K:Option R):Option R:=match b with
  | true=>K
  | false=>none

def opK (C:Call) (tm:TM) (G:GH) (K:TV→GH→Option R):DOp→Option R
  | .move x=>match x with
    | .k v=>K (.v v) G
    | .t n=>match tm[n]? with
      | some (.v v)=>K (.v v) G
      | some (.tup vs)=>K (.tup vs) G
      | some (.pt id off)=>K (.c (.ptr id off)) G
      | _=>none
  | .nilck x=>((x.cell tm).bind Cell.asP).bind fun p=>guardK (!Nat.beq p.1 0) (K (.pt p.1 p.2) G)
  | .pick c a b=>((c.cell tm).bind Cell.asB).bind fun t=>match t with
    | true=>(a.get tm).bind fun v=>K (.v v) G
    | false=>(b.get tm).bind fun v=>K (.v v) G
  | .newz cs=>K (.pt G.next 0) (G.alloc (.row cs false))
  | .newv x n=>(x.get tm).bind fun v=>chk (Nat.beq v.cells.length n) (K (.pt G.next 0) (G.alloc (.row v.cells false)))
  | .build zero parts=>(fillD tm zero parts).bind fun cs=>K (.agg cs) G
  | .bslice len es zero parts=>(fillD tm zero parts).bind fun cs=>K (.c (.sl es G.next 0 len)) (G.alloc (.row cs false))
  | .ldG a s=>match tm[a]? with
    | some (.pt id off)=>match s with
      | .c s=>shK s (G.ld id off) fun c=>K (.c c) G
      | .agg ss=>shsK (fun i=>G.ld id (off+i)) (fun cs=>K (.agg cs) G) ss 0
    | _=>none
  | .stG a x n=>match tm[a]? with
    | some (.pt id off)=>(x.get tm).bind fun v=>chk (Nat.beq v.cells.length n) ((G.sts id off v.cells).bind fun G=>K .und G)
    | _=>none
  | .iaddr x i es=>sK tm es x fun id off len=>natK tm i fun i=>guardK (decide (0≤i∧i<len)) (K (.pt id (off+i.toNat*es)) G)
  | .bin op k x y=>iK tm k x fun a=>match op with
    | .shl | .shr=>natK tm y fun b=>(binD op k a b).bind fun n=>K (.c (.int k n)) G
    | _=>iK tm k y fun b=>(binD op k a b).bind fun n=>K (.c (.int k n)) G
  | .cmp op k x y=>iK tm k x fun a=>iK tm k y fun b=>K (.c (.bool (cmpD op a b))) G
  | .beq neg x y=>((x.cell tm).bind Cell.asB).bind fun a=>((y.cell tm).bind Cell.asB).bind fun b=>K (.c (.bool (Bool.xor neg (a == b)))) G
  | .aeq neg ss x y=>((x.get tm).bind V1.a?).bind fun a=>((y.get tm).bind V1.a?).bind fun b=>(cellsEq ss a b).bind fun t=>K (.c (.bool (Bool.xor neg t))) G
  | .pnil neg x=>((x.cell tm).bind Cell.asP).bind fun p=>K (.c (.bool (Bool.xor neg (Nat.beq p.1 0)))) G
  | .snil neg x=>((x.cell tm).bind Cell.asSl).bind fun p=>K (.c (.bool (Bool.xor neg (Nat.beq p.1 0)))) G
  | .not x=>((x.cell tm).bind Cell.asB).bind fun t=>K (.c (.bool (!t))) G
  | .conv k x=>natK tm x fun n=>K (.c (.int k (k.wrap n))) G
  | .slice x lo hi es=>sK tm es x fun id off len =>
    let fin (l h:Int):Option R:=guardK (decide (0≤l∧l≤h∧h≤len)) (K (.c (.sl es id (off+l.toNat*es) (h.toNat-l.toNat))) G)
    match lo,hi with
    | none,none=>fin 0 len
    | some l,none=>natK tm l fun l=>fin l len
    | none,some h=>natK tm h fun h=>fin 0 h
    | some l,some h=>natK tm l fun l=>natK tm h fun h=>fin l h
  | .mkslice n es bytes zero=>natK tm n fun n=>guardK (decide (0≤n∧n≤most)) (K (.c (.sl es G.next 0 n.toNat)) (G.alloc (.row (reps n.toNat zero) false)))
  | .len x=>((x.cell tm).bind Cell.asSl).bind fun p=>K (.c (.int .i64 p.2)) G
  | .app x y es bytes=>sK tm es x fun id off len=>sK tm es y fun id' off' len' =>
    (if len' = 0 then some [] else G.lds id' off' (len' * es)).bind fun new=>guardK (decide (len+len'≤most))
      ((G.app id off len es len' new).bind fun p=>K (.c (.sl es p.1 p.2.1 (len+len'))) p.2.2)
  | .copy x y es=>sK tm es x fun id off len=>sK tm es y fun id' off' len' =>
    if len=0∨len' = 0 then K (.c (.int .i64 0)) G else
    (G.lds id' off' (min len' len*es)).bind fun new=>(G.sts id off new).bind fun G=>K (.c (.int .i64 (min len' len:Nat))) G
  | .clear x zero=>sK tm zero.length x fun id off len=>if len=0 then K .und G else (G.sts id off (reps len zero)).bind fun G=>K .und G
  | .mkmap ks=>K (.c (.map G.next)) (G.alloc (.map ks []))
  | .lkup ks m key zero s ok=>((m.cell tm).bind Cell.asM).bind fun m=>(key.get tm).bind fun key=>chk (keyOk ks key) ((G.ents0 ks m).bind fun es =>
    match ok with
    | true=>vsK s (some ((mapGet es key).getD zero)) fun v=>K (.tup [v,.c (.bool (mapGet es key).isSome)]) G
    | false=>vsK s (some ((mapGet es key).getD zero)) fun v=>K (.v v) G)
  | .mupd ks m key x=>((m.cell tm).bind Cell.asM).bind fun m=>(key.get tm).bind fun key=>(x.get tm).bind fun x=>chk (keyOk ks key) ((G.ents ks m).bind fun es =>
    K .und (G.set m (some (.map ks (mapPut es key x)))))
  | .del ks m key=>((m.cell tm).bind Cell.asM).bind fun m=>(key.get tm).bind fun key=>chk (keyOk ks key) ((G.ents ks m).bind fun es =>
    K .und (G.set m (some (.map ks (mapDel es key)))))
  | .mlen ks m=>((m.cell tm).bind Cell.asM).bind fun m=>(G.ents0 ks m).bind fun es=>K (.c (.int .i64 es.length)) G
  | .ext x i=>match tm[x]? with
    | some (.tup vs)=>(vs[i]?).bind fun v=>K (.v v) G
    | _=>none
  | .fld x off n agg=>((x.get tm).bind V1.a?).bind fun cs=>match agg with
    | true=>chk (Nat.ble (off+n) cs.length) (K (.agg ((cs.drop off).take n)) G)
    | false=>(cs[off]?).bind fun c=>K (.c c) G
  | .mx x xs=>iK tm .i64 x fun a=>go xs a mx2
  | .mn x xs=>iK tm .i64 x fun a=>go xs a mn2
  | .call f args rs=>(getAll tm args).bind fun vs=>(C f vs G).bind fun p=>match rs with
    | [s]=>vsK s (p.1[0]?) fun v=>K (.v v) p.2
    | rs=>resK (fun i=>p.1[i]?) (fun vs=>K (.tup vs) p.2) rs 0
  | .callT x args rs=>((x.cell tm).bind Cell.asF).bind fun f=>(getAll tm args).bind fun vs=>(C f vs G).bind fun p=>chk (Nat.beq p.1.length rs.length) (match rs with
    | [s]=>vsK s (p.1[0]?) fun v=>K (.v v) p.2
    | rs=>resK (fun i=>p.1[i]?) (fun vs=>K (.tup vs) p.2) rs 0)
  | .sbytes x=>((x.cell tm).bind Cell.asT).bind fun l=>K (.c (.sl 1 G.next 0 l.length)) (G.alloc (.lit (l.map fun b=>.int .u8 b.toNat)))
  | .reG d a s=>match tm[a]?,tm[d]? with
    | some (.pt id off),some (.v v)=>match s with
      | .c s=>shK s (G.ld id off) fun c=>guardK (decide (v = .c c)) (K .und G)
      | .agg ss=>shsK (fun i=>G.ld id (off+i)) (fun cs=>guardK (decide (v = .agg cs)) (K .und G)) ss 0
    | _,_=>none
  | .reK d ks m key zero s ok=>((m.cell tm).bind Cell.asM).bind fun m=>(key.get tm).bind fun key=>chk (keyOk ks key) ((G.ents0 ks m).bind fun es =>
    match ok,tm[d]? with
    | true,some (.tup [w,b])=>vsK s (some ((mapGet es key).getD zero)) fun v=>guardK (decide (w=v)&&decide (b = .c (.bool (mapGet es key).isSome))) (K .und G)
    | false,some (.v w)=>vsK s (some ((mapGet es key).getD zero)) fun v=>guardK (decide (w=v)) (K .und G)
    | _,_=>none)
  | _=>none
where
  go:List Src→Int→(Int→Int→Int)→Option R
    | [],a,_=>K (.c (.int .i64 a)) G
    | x::xs,a,f=>iK tm .i64 x fun b=>go xs (f a b) f
def opL (tm:TM) (dst:Option Nat) (K:TM→Option R):DOp→Option R
  | .boxz b ders cs=>dst.elim none fun d=>K (((ders.foldl (fun tm i=>tm.set i .und) tm).set b (.box cs)).set d (.ref b 0))
  | .boxv b ders x n=>(x.get tm).bind fun v=>chk (Nat.beq v.cells.length n) (dst.elim none fun d=>K (((ders.foldl (fun tm i=>tm.set i .und) tm).set b (.box v.cells)).set d (.ref b 0)))
  | .ldL a b s=>match tm[a]?,tm[b]?,dst with
    | some (.ref b' off),some (.box cs),some d=>chk (Nat.beq b' b) (match s with
      | .c _=>(cs[off]?).bind fun c=>K (tm.set d (.c c))
      | .agg ss=>chk (Nat.ble (off+ss.length) cs.length) (K (tm.set d (.agg ((cs.drop off).take ss.length)))))
    | _,_,_=>none
  | .stL a b x n=>match tm[a]?,tm[b]? with
    | some (.ref b' off),some (.box cs)=>(x.get tm).bind fun v=>chk (Nat.beq b' b&&Nat.beq v.cells.length n&&Nat.ble (off+n) cs.length) (K (tm.set b (.box (splice cs off v.cells))))
    | _,_=>none
  | .faddr a off=>match tm[a]?,dst with
    | some (.ref b o),some d=>K (tm.set d (.ref b (o+off)))
    | some (.pt id o),some d=>K (tm.set d (.pt id (o+off)))
    | _,_=>none
  | .iaddrA a i len es=>natK tm i fun i=>guardK (decide (0≤i∧i<len)) (match tm[a]?,dst with
    | some (.ref b o),some d=>K (tm.set d (.ref b (o+i.toNat*es)))
    | some (.pt id o),some d=>K (tm.set d (.pt id (o+i.toNat*es)))
    | _,_=>none)
  | _=>none
def DOp.isL:DOp→Bool
  | .boxz .. | .boxv .. | .ldL .. | .stL .. | .faddr .. | .iaddrA ..=>true
  | _=>false
def put (tm:TM) (dst:Option Nat) (v:TV):TM:=match dst with
  | some d=>tm.set d v
  | none=>tm
structure DO where
  /-- Which of the region's operations it is. -/
  ix:Nat
  dst:Option Nat
  op:DOp
  /-- The slot that lets it run,and what it must hold. -/
  grd:Option (Nat×Bool)
def goK (C:Call) (o:DO) (tm:TM) (G:GH) (K:TM→GH→Option R):Option R :=
  match o.op.isL with
  | true=>opL tm o.dst (fun tm=>K tm G) o.op
  | false=>opK C tm G (fun v G=>K (put tm o.dst v) G) o.op
def stepK (C:Call) (o:DO) (tm:TM) (G:GH) (K:TM→GH→Option R):Option R:=match o.grd with
  | none=>goK C o tm G K
  | some (g,want)=>match tm[g]? with
    | some (.v (.c (.bool b)))=>match b,want with
      | true,true=>goK C o (tm.set g (.c (.bool true))) G K
      | true,false=>K (put (tm.set g (.c (.bool true))) o.dst .no) G
      | false,true=>K (put (tm.set g (.c (.bool false))) o.dst .no) G
      | false,false=>goK C o (tm.set g (.c (.bool false))) G K
    | some .no=>K (put tm o.dst .no) G
    | _=>none
def opsK (C:Call):List DO→TM→GH→(TM→GH→Option R)→Option R
  | [],tm,G,K=>K tm G
  | o::os,tm,G,K=>stepK C o tm G fun tm G=>opsK C os tm G K
end ops

inductive DCode where
  | skip | region (ops:List DO) | seq (a b:DCode) | cond (c:Src) (t e:DCode) | block (id:Nat) (b:DCode) | loop (keep:List Nat) (b:DCode) | cut (keep:List Nat) (b:DCode) | exit (id:Nat) | ret
abbrev Kont:=TM→GH→Option Res
structure Env where
  exits:List (Nat×Kont)
  ret:Kont
def findExit:List (Nat×Kont)→Nat→Option Kont
  | [],_=>none
  | (i,K)::l,id=>match Nat.beq i id with
    | true=>some K
    | false=>findExit l id
def restr:List Nat→Nat→TM→TM
  | _,_,[]=>[]
  | [],i,_::xs=>.und::restr [] (i+1) xs
  | j::js,i,x::xs=>match Nat.beq i j with
    | true=>x::restr js (i+1) xs
    | false=>.und::restr (j::js) (i+1) xs
abbrev Again:=List Nat→DCode→Env→Kont→Kont
def execC (j:Kont→Kont) (C:Call) (ag:Again):DCode→Env→Kont→Kont
  | .skip,_,K=>K
  | .region ops,_,K=>fun tm G=>opsK C ops tm G K
  | .seq a b,E,K=>execC j C ag a E (execC j C ag b E K)
  | .cond c t e,E,K=>fun tm G=>((c.cell tm).bind Cell.asB).bind fun x=>match x with
    | true=>execC j C ag t E K tm G
    | false=>execC j C ag e E K tm G
  | .block id b,E,K=>execC j C ag b { E with exits:=(id,K)::E.exits } K
  | .loop keep b,E,K=>fun tm G=>ag keep b E K (restr keep 0 tm) G
  | .cut keep b,E,K=>fun tm G=>j (execC j C ag b E K) (restr keep 0 tm) G
  | .exit id,E,_=>fun tm G=>(findExit E.exits id).elim none fun K=>K tm G
  | .ret,E,_=>E.ret
structure Mach where
  j:Kont→Kont
  ag:Call→Again
  hj:∀ f tm G,j f tm G=f tm G
  hs:∀ C keep b E K tm G,ag C keep b E K tm G=execC j C (ag C) b E (fun tm G=>ag C keep b E K (restr keep 0 tm) G) tm G
inductive RV where
  | t (n:Nat) | box (n:Nat) (agg:Option Nat) | pt (n:Nat) (agg:Option Nat)
inductive Prim where
  | ins (es bytes:Nat) | del (es:Nat) (zero:List Cell)
def insD (es:Nat) (id off len:Nat) (i:Int) (id' off' len':Nat) (G:GH):Option Res :=
  guardK (decide (0≤i∧i≤len)&&decide (0<len')&&decide (id≠id')&&decide (len+len'≤most)&&(G.own id').isSome) ((G.lds id' off' (len' * es)).bind fun new =>
    if id=0 then guardK (decide (len=0)) (some ([.c (.sl es G.next 0 len')],G.alloc (.row new false)))
    else (G.own id).bind fun cs=>guardK (decide (off+len*es=cs.length))
      (some ([.c (.sl es G.next 0 (len+len'))],(G.set id none).alloc (.row ((cs.drop off).take (i.toNat*es)++new++(cs.drop off).drop (i.toNat*es)) false))))
def delD (es:Nat) (zero:List Cell) (id off len:Nat) (i j:Int) (G:GH):Option Res :=
  guardK (decide (0≤i∧i<j∧j≤len)) ((G.own id).bind fun cs=>guardK (decide (off+len*es≤cs.length))
    (some ([.c (.sl es id off (len-(j.toNat-i.toNat)))],G.set id (some (.row (splice cs (off+i.toNat*es) (((cs.drop (off+j.toNat*es)).take ((len-j.toNat)*es))++reps (j.toNat-i.toNat) zero)) false)))))
def Prim.run:Prim→List V1→GH→Option Res
  | .ins es _,[.c (.sl e id off len),.c (.int .i64 i),.c (.sl e' id' off' len')],G=>guardK (Nat.beq e es&&Nat.beq e' es) (insD es id off len i id' off' len' G)
  | .del es zero,[.c (.sl e id off len),.c (.int .i64 i),.c (.int .i64 j)],G=>guardK (Nat.beq e es) (delD es zero id off len i j G)
  | _,_,_=>none
structure DFn where
  ntmps:Nat
  res:List RV
  body:DCode
  prim:Option Prim:=none
def rvD (tm:TM) (G:GH):RV→Option V1
  | .t n=>(tm[n]?).bind TV.v?
  | .box n agg=>match tm[n]? with
    | some (.ref b 0)=>match tm[b]? with
      | some (.box cs)=>match agg with
        | some k=>chk (Nat.beq cs.length k) (some (.agg cs))
        | none=>match cs with
          | [c]=>some (.c c)
          | _=>none
      | _=>none
    | _=>none
  | .pt n agg=>match tm[n]? with
    | some (.pt id off)=>match agg with
      | some k=>(G.lds id off k).bind fun cs=>some (.agg cs)
      | none=>(G.ld id off).bind fun c=>some (.c c)
    | _=>none
def rvsD (tm:TM) (G:GH):List RV→Option (List V1)
  | []=>some []
  | r::rs=>(rvD tm G r).bind fun v=>(rvsD tm G rs).bind fun vs=>some (v::vs)
def retK (d:DFn):Kont:=fun tm G=>(rvsD tm G d.res).bind fun vs=>some (vs,G)
def initTm (n:Nat) (args:List V1):TM:=args.map .v++List.replicate (n-args.length) .und
def runF (M:Mach) (C:Call) (d:DFn) (args:List V1) (G:GH):Option Res:=match d.prim with
  | none=>execC M.j C (M.ag C) d.body { exits:=[],ret:=retK d } (retK d) (initTm d.ntmps args) G
  | some p=>p.run args G
end Go.Proofs.D
/- The machine told plainly,without what comes after: each piece of code comes to an ending and a state. -/
set_option linter.unusedVariables false
namespace Go.Proofs.D
open Go

section
variable {R S:Type}
theorem guardK_bind (b:Bool) (x:Option R) (f:R→Option S):(guardK b x).bind f=guardK b (x.bind f):=by cases b <;> rfl
theorem chk_bind (b:Bool) (x:Option R) (f:R→Option S):(chk b x).bind f=chk b (x.bind f):=by cases b <;> rfl
theorem shK_bind (s:Sh) (x:Option Cell) (K:Cell→Option R) (f:R→Option S):(shK s x K).bind f=shK s x fun c=>(K c).bind f:=by
  cases s <;> simp only [shK,Option.bind_assoc]
theorem shsK_bind (at_:Nat→Option Cell) (f:R→Option S):∀ (ss:List Sh) (i:Nat) (K:List Cell→Option R),(shsK at_ K ss i).bind f=shsK at_ (fun cs=>(K cs).bind f) ss i
  | [],_,_=>rfl
  | s::ss,i,K=>by simp only [shsK,shK_bind,shsK_bind at_ f ss]
theorem ite_bind (c:Prop) [Decidable c] (x y:Option R) (f:R→Option S):(if c then x else y).bind f=if c then x.bind f else y.bind f:=by split <;> rfl
theorem vsK_bind (s:VS) (x:Option V1) (K:V1→Option R) (f:R→Option S):(vsK s x K).bind f=vsK s x fun c=>(K c).bind f:=by
  cases s with
  | c s=>simp only [vsK,shK_bind]
  | agg ss=>simp only [vsK,Option.bind_assoc,ite_bind,shsK_bind,Option.bind_none]
theorem resK_bind (at_:Nat→Option V1) (f:R→Option S):∀ (ss:List VS) (i:Nat) (K:List V1→Option R),(resK at_ K ss i).bind f=resK at_ (fun cs=>(K cs).bind f) ss i
  | [],_,_=>rfl
  | s::ss,i,K=>by simp only [resK,vsK_bind,resK_bind at_ f ss]
theorem go_bind (tm:TM) (G:GH) (K:TV→GH→Option R) (f:R→Option S) (g:Int→Int→Int):∀ (xs:List Src) (a:Int),
    (opK.go tm G K xs a g).bind f=opK.go tm G (fun v G=>(K v G).bind f) xs a g
  | [],_=>rfl
  | x::xs,a=>by simp only [opK.go,iK,Option.bind_assoc,go_bind tm G K f g xs]
end

def opD (C:Call) (tm:TM) (G:GH) (op:DOp):Option (TV×GH):=opK C tm G (fun v G=>some (v,G)) op
def opLD (tm:TM) (dst:Option Nat) (op:DOp):Option TM:=opL tm dst some op
theorem opK_eq {R:Type} (C:Call) (tm:TM) (G:GH) (K:TV→GH→Option R) (op:DOp):opK C tm G K op=(opD C tm G op).bind fun p=>K p.1 p.2:=by
  unfold opD
  cases op
  case move x =>
    cases x with
    | k v=>rfl
    | t n=>simp only [opK];split <;> rfl
  case pick c a b =>
    simp only [opK,Option.bind_assoc];refine congrArg _ (funext fun y=>congrArg _ (funext fun t=>?_))
    cases t <;> (simp only [Option.bind_assoc];rfl)
  case ldG a s=>simp only [opK];split <;> first | rfl | (cases s <;> simp only [shK_bind,shsK_bind,Option.bind_some])
  case stG a x n=>simp only [opK];split <;> simp only [Option.bind_assoc,chk_bind,Option.bind_some,Option.bind_none]
  case bin op k x y=>simp only [opK,iK,Option.bind_assoc];congr;funext n;cases op <;> simp only [natK,iK,Option.bind_assoc,Option.bind_some]
  case slice x lo hi es=>simp only [opK,sK,Option.bind_assoc];congr;funext p;cases lo <;> cases hi <;> simp only [natK,guardK_bind,Option.bind_assoc,Option.bind_some]
  case lkup ks m key zero s ok=>simp only [opK,Option.bind_assoc,chk_bind];congr;funext m;congr;funext key;congr;funext es;congr;funext es;cases ok <;> simp only [vsK_bind,Option.bind_some]
  case ext x i=>simp only [opK];split <;> simp only [Option.bind_assoc,Option.bind_some,Option.bind_none]
  case fld x off n agg=>simp only [opK,Option.bind_assoc];congr;funext cs;cases agg <;> simp only [guardK_bind,chk_bind,Option.bind_assoc,Option.bind_some]
  case mx x xs=>simp only [opK,iK,Option.bind_assoc,go_bind,Option.bind_some]
  case mn x xs=>simp only [opK,iK,Option.bind_assoc,go_bind,Option.bind_some]
  case call f args rs=>simp only [opK,Option.bind_assoc];congr;funext vs;congr;funext p;split <;> simp only [vsK_bind,resK_bind,Option.bind_some]
  case callT x args rs=>simp only [opK,Option.bind_assoc];refine congrArg _ (funext fun f0=>congrArg _ (funext fun f=>congrArg _ (funext fun vs=>congrArg _ (funext fun p=>?_))));rw [chk_bind];refine congrArg _ ?_;split <;> simp only [vsK_bind,resK_bind,Option.bind_some]
  case reG d a s=>simp only [opK];split <;> first | rfl | (cases s <;> simp only [shK_bind,shsK_bind,guardK_bind,Option.bind_some])
  case reK d ks m key zero s ok=>simp only [opK,Option.bind_assoc,chk_bind];congr;funext m;congr;funext key;congr;funext es;congr;funext es;split <;> simp only [vsK_bind,guardK_bind,Option.bind_some,Option.bind_none]
  case clear x zero=>simp only [opK,sK,Option.bind_assoc,ite_bind,Option.bind_some]
  case copy x y es=>simp only [opK,sK,Option.bind_assoc,ite_bind,Option.bind_some]
  case app x y es bytes=>simp only [opK,sK,Option.bind_assoc,guardK_bind,Option.bind_some]
  all_goals simp only [opK,iK,sK,natK,Option.bind_assoc,guardK_bind,chk_bind,Option.bind_some,Option.bind_none]

theorem opL_eq {R:Type} (tm:TM) (dst:Option Nat) (K:TM→Option R) (op:DOp):opL tm dst K op=(opLD tm dst op).bind K:=by
  unfold opLD
  cases op
  case boxz b ders cs=>cases dst <;> rfl
  case boxv b ders x n=>cases dst <;> simp only [opL,Option.bind_assoc,chk_bind,Option.elim_some,Option.elim_none,Option.bind_some,Option.bind_none]
  case ldL a b s=>simp only [opL];split <;> first | rfl | (cases s <;> simp only [chk_bind,Option.bind_assoc,Option.bind_some])
  case stL a b x n=>simp only [opL];split <;> simp only [chk_bind,Option.bind_assoc,Option.bind_some,Option.bind_none]
  case faddr a off=>simp only [opL];split <;> rfl
  case iaddrA a i len es=>simp only [opL,natK,Option.bind_assoc];refine congrArg _ (funext fun n=>congrArg _ (funext fun p=>?_));rw [guardK_bind];refine congrArg _ ?_;split <;> rfl
  all_goals rfl

def goD (C:Call) (o:DO) (tm:TM) (G:GH):Option (TM×GH):=match o.op.isL with
  | true=>(opLD tm o.dst o.op).map (·,G)
  | false=>(opD C tm G o.op).map fun p=>(put tm o.dst p.1,p.2)
theorem goK_eq {R:Type} (C:Call) (o:DO) (tm:TM) (G:GH) (K:TM→GH→Option R):goK C o tm G K=(goD C o tm G).bind fun p=>K p.1 p.2:=by
  unfold goK goD
  cases o.op.isL with
  | true=>dsimp only;rw [opL_eq];cases opLD tm o.dst o.op <;> rfl
  | false=>dsimp only;rw [opK_eq];cases opD C tm G o.op <;> rfl
def stepD (C:Call) (o:DO) (tm:TM) (G:GH):Option (TM×GH):=match o.grd with
  | none=>goD C o tm G
  | some (g,want)=>match tm[g]? with
    | some (.v (.c (.bool b)))=>if b=want then goD C o tm G else some (put tm o.dst .no,G)
    | some .no=>some (put tm o.dst .no,G)
    | _=>none
theorem set_self (tm:TM) (g:Nat) (v:TV) (h:tm[g]? = some v):tm.set g v=tm:=by
  apply List.ext_getElem?
  intro i
  rw [List.getElem?_set]
  split
  · rename_i e;subst e
    split
    · exact h.symm
    · rename_i hl;rw [List.getElem?_eq_none (by omega)]
  · rfl
theorem stepK_eq {R:Type} (C:Call) (o:DO) (tm:TM) (G:GH) (K:TM→GH→Option R):stepK C o tm G K=(stepD C o tm G).bind fun p=>K p.1 p.2:=by
  unfold stepK stepD
  cases hg:o.grd with
  | none=>exact goK_eq C o tm G K
  | some gw =>
    obtain ⟨g,want⟩:=gw
    dsimp only
    generalize h:tm[g]? = x
    cases x with
    | none=>rfl
    | some x =>
      cases x with
      | no=>rfl
      | v x =>
        cases x with
        | agg cs=>rfl
        | c x =>
          cases x with
          | bool b =>
            have hs:=set_self tm g _ h
            cases b <;> cases want <;> simp only [hs,if_true,if_false,reduceCtorEq,Option.bind_some,goK_eq]
          | _=>rfl
      | _=>rfl
def opsD (C:Call):List DO→TM→GH→Option (TM×GH)
  | [],tm,G=>some (tm,G)
  | o::os,tm,G=>(stepD C o tm G).bind fun p=>opsD C os p.1 p.2
theorem opsK_eq {R:Type} (C:Call):∀ (os:List DO) (tm:TM) (G:GH) (K:TM→GH→Option R),opsK C os tm G K=(opsD C os tm G).bind fun p=>K p.1 p.2
  | [],_,_,_=>rfl
  | o::os,tm,G,K=>by
    simp only [opsK,opsD,stepK_eq,Option.bind_assoc]
    congr;funext p;exact opsK_eq C os p.1 p.2 K

inductive DX where
  | normal | exit (id:Nat) | ret
abbrev Out:=DX×TM×GH
def route (E:Env) (K:Kont):Out→Option Res
  | (.normal,tm,G)=>K tm G
  | (.exit id,tm,G)=>(findExit E.exits id).elim none fun K=>K tm G
  | (.ret,tm,G)=>E.ret tm G
def unblock (id:Nat):Out→Out
  | (.exit id',tm,G)=>match Nat.beq id id' with
    | true=>(.normal,tm,G)
    | false=>(.exit id',tm,G)
  | o=>o
def exD (C:Call) (lp:List Nat→DCode→TM→GH→Option Out):DCode→TM→GH→Option Out
  | .skip,tm,G=>some (.normal,tm,G)
  | .region ops,tm,G=>(opsD C ops tm G).map (.normal,·)
  | .seq a b,tm,G=>(exD C lp a tm G).bind fun
    | (.normal,tm,G)=>exD C lp b tm G
    | o=>some o
  | .cond c t e,tm,G=>((c.cell tm).bind Cell.asB).bind fun x=>match x with
    | true=>exD C lp t tm G
    | false=>exD C lp e tm G
  | .block id b,tm,G=>(exD C lp b tm G).map (unblock id)
  | .loop keep b,tm,G=>lp keep b (restr keep 0 tm) G
  | .cut keep b,tm,G=>exD C lp b (restr keep 0 tm) G
  | .exit id,tm,G=>some (.exit id,tm,G)
  | .ret,tm,G=>some (.ret,tm,G)
def loopD (C:Call):Nat→List Nat→DCode→TM→GH→Option Out
  | 0,_,_,_,_=>none
  | n+1,keep,b,tm,G=>(exD C (loopD C n) b tm G).bind fun
    | (.normal,tm,G)=>loopD C n keep b (restr keep 0 tm) G
    | o=>some o
theorem exec_eq (j:Kont→Kont) (hj:∀ f tm G,j f tm G=f tm G) (C:Call) (ag:Again) (lp:List Nat→DCode→TM→GH→Option Out) (hl:∀ keep b E K tm G,ag keep b E K tm G=(lp keep b tm G).bind (route E K)) :
    ∀ (c:DCode) (E:Env) (K:Kont) (tm:TM) (G:GH),execC j C ag c E K tm G=(exD C lp c tm G).bind (route E K):=by
  intro c
  induction c with
  | skip=>intros;rfl
  | region ops=>intro E K tm G;simp only [execC,exD,opsK_eq];cases opsD C ops tm G <;> rfl
  | seq a b iha ihb =>
    intro E K tm G
    simp only [execC,exD,iha,Option.bind_assoc]
    congr;funext o
    obtain ⟨x,tm,G⟩:=o
    cases x <;> first | (simp only [route,ihb];done) | rfl
  | cond c t e iht ihe =>
    intro E K tm G
    simp only [execC,exD,Option.bind_assoc]
    refine congrArg _ (funext fun y=>congrArg _ (funext fun x=>?_))
    cases x <;> simp only [iht,ihe]
  | block id b ih =>
    intro E K tm G
    simp only [execC,exD,ih,Option.bind_map]
    congr;funext o
    obtain ⟨x,tm,G⟩:=o
    cases x with
    | exit id'=>simp only [route,Function.comp,unblock,findExit];cases Nat.beq id id' <;> rfl
    | _=>rfl
  | loop keep b _=>intro E K tm G;simp only [execC,exD,hl]
  | cut keep b ih=>intro E K tm G;simp only [execC,exD,hj,ih]
  | exit id=>intros;rfl
  | ret=>intros;rfl
def runB (C:Call) (n:Nat) (d:DFn) (args:List V1) (G:GH):Option Res :=
  (exD C (loopD C n) d.body (initTm d.ntmps args) G).bind fun
    | (.exit _,_,_)=>none
    | (_,tm,G)=>retK d tm G
def runD (C:Call) (n:Nat) (d:DFn) (args:List V1) (G:GH):Option Res:=match d.prim with
  | none=>runB C n d args G
  | some p=>p.run args G
def callD (T:Nat→Option (Nat×DFn)):Nat→Call
  | 0=>fun _ _ _=>none
  | n+1=>fun f args G=>match T f with
    | some (p,d)=>match Nat.beq args.length p with
      | true=>runD (callD T n) n d args G
      | false=>none
    | none=>none
end Go.Proofs.D
/- The machine without a bound: what it comes to,if it comes to anything with some bound. -/
set_option linter.unusedVariables false
namespace Go.Proofs.D
open Go
structure Lim {α:Type} (s:Nat→Option α) (l:Option α):Prop where
  up:∀ n r,s n=some r→s (n+1)=some r
  lim:∀ r,l=some r↔∃ n,s n=some r
section
variable {α β:Type}
theorem Lim.mono {s:Nat→Option α} {l:Option α} (h:Lim s l) {m n:Nat} (hm:m≤n) {r:α} (e:s m=some r):s n=some r:=by
  induction hm with
  | refl=>exact e
  | step _ ih=>exact h.up _ _ ih
theorem Lim.const (x:Option α):Lim (fun _=>x) x:=⟨fun _ _ h=>h,fun r=>⟨fun h=>⟨0,h⟩,fun ⟨_,h⟩=>h⟩⟩
theorem Lim.bind {s:Nat→Option α} {l:Option α} {f:Nat→α→Option β} {g:α→Option β} (h:Lim s l) (k:∀ a,Lim (fun n=>f n a) (g a)):Lim (fun n=>(s n).bind (f n)) (l.bind g):=by
  refine ⟨fun n r e=>?_,fun r=>⟨fun e=>?_,fun ⟨n,e⟩=>?_⟩⟩
  · obtain ⟨a,h1,h2⟩:=Option.bind_eq_some_iff.1 e
    exact Option.bind_eq_some_iff.2 ⟨a,h.up _ _ h1,(k a).up _ _ h2⟩
  · obtain ⟨a,h1,h2⟩:=Option.bind_eq_some_iff.1 e
    obtain ⟨m,h1⟩:=(h.lim a).1 h1
    obtain ⟨n,h2⟩:=((k a).lim r).1 h2
    exact ⟨max m n,Option.bind_eq_some_iff.2 ⟨a,h.mono (Nat.le_max_left _ _) h1,(k a).mono (Nat.le_max_right m n) h2⟩⟩
  · obtain ⟨a,h1,h2⟩:=Option.bind_eq_some_iff.1 e
    exact Option.bind_eq_some_iff.2 ⟨a,(h.lim a).2 ⟨n,h1⟩,((k a).lim r).2 ⟨n,h2⟩⟩
theorem Lim.map {s:Nat→Option α} {l:Option α} (h:Lim s l) (f:α→β):Lim (fun n=>(s n).map f) (l.map f):=by
  have:=h.bind (f:=fun _ a=>some (f a)) (g:=fun a=>some (f a)) fun a=>.const _
  simpa [Option.map_eq_bind,Function.comp_def] using this
open Classical in
noncomputable def limO (s:Nat→Option α):Option α:=if h:∃ n r,s n=some r then s h.choose else none
theorem Lim.of {s:Nat→Option α} (up:∀ n r,s n=some r→s (n+1)=some r):Lim s (limO s):=by
  refine ⟨up,fun r=>?_⟩
  have mono:∀ {m n:Nat},m≤n→∀ {r:α},s m=some r→s n=some r:=fun {m n} hm {r} e=>by
    induction hm with
    | refl=>exact e
    | step _ ih=>exact up _ _ ih
  unfold limO
  split
  · rename_i h
    obtain ⟨r',hr'⟩:=h.choose_spec
    constructor
    · exact fun e=>⟨_,e⟩
    · rintro ⟨n,e⟩
      have a:=mono (Nat.le_max_left n h.choose) e
      have b:=mono (Nat.le_max_right n h.choose) hr'
      rw [a] at b;cases b;exact hr'
  · rename_i h
    exact ⟨fun e=>(by cases e),fun ⟨n,e⟩=>absurd ⟨n,r,e⟩ h⟩
theorem Lim.eq {s:Nat→Option α} {l m:Option α} (h:Lim s l) (k:Lim s m):l=m:=by
  apply Option.ext;intro r;rw [h.lim,k.lim]
theorem Lim.two {x y:Option α}:Lim (fun n=>if n=0 then x else y) y↔∀ r,x=some r→y=some r:=by
  constructor
  · exact fun h r e=>(h.lim r).2 ⟨0,by simpa using e⟩
  · intro h
    refine ⟨fun n r e=>?_,fun r=>⟨fun e=>⟨1,by simpa using e⟩,fun ⟨n,e⟩=>?_⟩⟩
    · cases n with
      | zero=>simpa using h r (by simpa using e)
      | succ n=>simpa using e
    · cases n with
      | zero=>exact h r (by simpa using e)
      | succ n=>simpa using e
end
abbrev LimC (Cs:Nat→Call) (C:Call):Prop:=∀ f args G,Lim (fun n=>Cs n f args G) (C f args G)
abbrev LimL (ls:Nat→List Nat→DCode→TM→GH→Option Out) (l:List Nat→DCode→TM→GH→Option Out):Prop:=∀ keep b tm G,Lim (fun n=>ls n keep b tm G) (l keep b tm G)
section
variable {Cs:Nat→Call} {C:Call} {ls:Nat→List Nat→DCode→TM→GH→Option Out} {l:List Nat→DCode→TM→GH→Option Out}
theorem lim_op (hC:LimC Cs C) (tm:TM) (G:GH) (op:DOp):Lim (fun n=>opD (Cs n) tm G op) (opD C tm G op):=by
  cases op
  case call f args rs=>exact (Lim.const _).bind fun vs=>(hC _ _ _).bind fun p=>.const _
  case callT x args rs=>exact (Lim.const _).bind fun f=>(Lim.const _).bind fun vs=>(hC _ _ _).bind fun p=>.const _
  all_goals exact .const _
theorem lim_go (hC:LimC Cs C) (o:DO) (tm:TM) (G:GH):Lim (fun n=>goD (Cs n) o tm G) (goD C o tm G):=by
  unfold goD
  cases o.op.isL with
  | true=>exact .const _
  | false=>exact (lim_op hC tm G o.op).map _
theorem lim_step (hC:LimC Cs C) (o:DO) (tm:TM) (G:GH):Lim (fun n=>stepD (Cs n) o tm G) (stepD C o tm G):=by
  unfold stepD
  cases o.grd with
  | none=>exact lim_go hC o tm G
  | some gw =>
    obtain ⟨g,want⟩:=gw
    dsimp only
    generalize tm[g]? = x
    cases x with
    | none=>exact .const _
    | some x =>
      cases x with
      | v x =>
        cases x with
        | agg cs=>exact .const _
        | c x =>
          cases x with
          | bool b=>by_cases h:b=want <;> simp only [h,if_true,if_false] <;> first | exact lim_go hC o tm G | exact .const _
          | _=>exact .const _
      | _=>exact .const _
theorem lim_ops (hC:LimC Cs C):∀ (os:List DO) (tm:TM) (G:GH),Lim (fun n=>opsD (Cs n) os tm G) (opsD C os tm G)
  | [],_,_=>.const _
  | o::os,tm,G=>(lim_step hC o tm G).bind fun p=>lim_ops hC os p.1 p.2
theorem lim_ex (hC:LimC Cs C) (hl:LimL ls l):∀ (c:DCode) (tm:TM) (G:GH),Lim (fun n=>exD (Cs n) (ls n) c tm G) (exD C l c tm G):=by
  intro c
  induction c with
  | skip=>intros;exact .const _
  | region ops=>intro tm G;exact (lim_ops hC ops tm G).map _
  | seq a b iha ihb =>
    intro tm G
    refine (iha tm G).bind fun o=>?_
    obtain ⟨x,tm,G⟩:=o
    cases x <;> first | exact ihb tm G | exact .const _
  | cond c t e iht ihe =>
    intro tm G
    refine (Lim.const _).bind fun x=>?_
    cases x <;> first | exact iht tm G | exact ihe tm G
  | block id b ih=>intro tm G;exact (ih tm G).map _
  | loop keep b _=>intro tm G;exact hl _ _ _ _
  | cut keep b ih=>intro tm G;exact ih _ G
  | exit id=>intros;exact .const _
  | ret=>intros;exact .const _
theorem lim_loop (hC:LimC Cs C):∀ (m:Nat),LimL (fun n=>loopD (Cs n) m) (loopD C m)
  | 0=>fun _ _ _ _=>.const _
  | m+1=>fun keep b tm G=>by
    refine (lim_ex (ls:=fun n=>loopD (Cs n) m) hC (lim_loop hC m) b tm G).bind fun o=>?_
    obtain ⟨x,tm,G⟩:=o
    cases x <;> first | exact lim_loop hC m keep b _ G | exact .const _
theorem loop_up (C:Call):∀ (m:Nat) (keep:List Nat) (b:DCode) (tm:TM) (G:GH) (r:Out),loopD C m keep b tm G=some r→loopD C (m+1) keep b tm G=some r
  | 0,_,_,_,_,r,h=>by simp [loopD] at h
  | m+1,keep,b,tm,G,r,h=>by
    have hl:LimL (fun n=>if n=0 then loopD C m else loopD C (m+1)) (loopD C (m+1)):=fun keep b tm G=>by
      have:=Lim.two.2 (loop_up C m keep b tm G)
      refine ⟨fun n r e=>?_,fun r=>⟨fun e=>?_,fun ⟨n,e⟩=>?_⟩⟩
      · have:=this.up n r;cases n <;> simp_all
      · exact ⟨1,by simpa using e⟩
      · have:=(this.lim r).2 ⟨n,by cases n <;> simp_all⟩;exact this
    have h1:=lim_ex (Cs:=fun _=>C) (fun _ _ _=>.const _) hl b tm G
    rw [loopD] at h ⊢
    obtain ⟨o,ho,h2⟩:=Option.bind_eq_some_iff.1 h
    refine Option.bind_eq_some_iff.2 ⟨o,(h1.lim o).2 ⟨0,by simpa using ho⟩,?_⟩
    obtain ⟨x,tm',G'⟩:=o
    cases x <;> first | exact loop_up C m _ _ _ _ _ h2 | exact h2
noncomputable def loopW (C:Call) (keep:List Nat) (b:DCode) (tm:TM) (G:GH):Option Out:=limO fun n=>loopD C n keep b tm G
theorem loopW_lim (C:Call):LimL (loopD C) (loopW C):=fun keep b tm G=>.of fun n r h=>loop_up C n keep b tm G r h
theorem loopW_eq (C:Call) (keep:List Nat) (b:DCode) (tm:TM) (G:GH):loopW C keep b tm G=(exD C (loopW C) b tm G).bind fun
    | (.normal,tm,G)=>loopW C keep b (restr keep 0 tm) G
    | o=>some o:=by
  have h1:=loopW_lim C keep b tm G
  have h2:Lim (fun n=>loopD C (n+1) keep b tm G) (loopW C keep b tm G):=⟨fun n r e=>loop_up _ _ _ _ _ _ _ e,fun r=>by
    rw [h1.lim]
    exact ⟨fun ⟨n,e⟩=>⟨n,loop_up _ _ _ _ _ _ _ e⟩,fun ⟨n,e⟩=>⟨n+1,e⟩⟩⟩
  refine h2.eq ?_
  refine (lim_ex (Cs:=fun _=>C) (ls:=loopD C) (fun _ _ _=>.const _) (loopW_lim C) b tm G).bind fun o=>?_
  obtain ⟨x,tm,G⟩:=o
  cases x <;> first | exact loopW_lim C keep b _ G | exact .const _
theorem loop_diag (hC:LimC Cs C):LimL (fun n=>loopD (Cs n) n) (loopW C):=fun keep b tm G=>by
  refine ⟨fun n r e=>loop_up _ _ _ _ _ _ _ ((lim_loop hC n keep b tm G).up n r e),fun r=>?_⟩
  rw [(loopW_lim C keep b tm G).lim]
  constructor
  · rintro ⟨m,e⟩
    obtain ⟨n,e⟩:=((lim_loop hC m keep b tm G).lim r).1 e
    have e1:=(lim_loop hC m keep b tm G).mono (Nat.le_max_right m n) e
    have e2:loopD (Cs (max m n)) (max m n) keep b tm G=some r:=(loopW_lim (Cs (max m n)) keep b tm G).mono (Nat.le_max_left m n) e1
    exact ⟨_,e2⟩
  · rintro ⟨n,e⟩
    exact ⟨n,((lim_loop hC n keep b tm G).lim r).2 ⟨n,e⟩⟩
end
noncomputable def agW (C:Call):Again:=fun keep b E K tm G=>(loopW C keep b tm G).bind (route E K)
noncomputable def machW:Mach where
  j:=fun f=>f
  ag:=agW
  hj:=fun _ _ _=>rfl
  hs:=fun C keep b E K tm G=>by
    rw [exec_eq _ (fun _ _ _=>rfl) C (agW C) (loopW C) (fun _ _ _ _ _ _=>rfl)]
    conv=>lhs;unfold agW
    rw [loopW_eq,Option.bind_assoc]
    congr;funext o
    obtain ⟨x,tm,G⟩:=o
    cases x <;> rfl
def finD (d:DFn):Out→Option Res
  | (.exit _,_,_)=>none
  | (_,tm,G)=>retK d tm G
theorem runF_W (C:Call) (d:DFn) (args:List V1) (G:GH) (hp:d.prim=none):runF machW C d args G=(exD C (loopW C) d.body (initTm d.ntmps args) G).bind (finD d):=by
  unfold runF
  rw [hp]
  dsimp only
  rw [exec_eq machW.j (fun _ _ _=>rfl) C (machW.ag C) (loopW C) (fun _ _ _ _ _ _=>rfl)]
  congr;funext o
  obtain ⟨x,tm,G⟩:=o
  cases x <;> rfl
theorem runD_W {Cs:Nat→Call} {C:Call} (hC:LimC Cs C) (d:DFn) (args:List V1) (G:GH):Lim (fun n=>runD (Cs n) n d args G) (runF machW C d args G):=by
  cases hp:d.prim with
  | some p=>simp only [runD,runF,hp];exact .const _
  | none =>
    simp only [runD,hp]
    rw [runF_W C d args G hp]
    refine (lim_ex hC (loop_diag hC) d.body _ G).bind fun o=>?_
    obtain ⟨x,tm,G⟩:=o
    cases x <;> exact .const _
theorem callD_up (T:Nat→Option (Nat×DFn)):∀ (n:Nat) f args G r,callD T n f args G=some r→callD T (n+1) f args G=some r
  | 0,_,_,_,r,h=>by simp [callD] at h
  | n+1,f,args,G,r,h=>by
    simp only [callD] at h ⊢
    split at h
    · rename_i p d e
      split at h
      · have hC:LimC (fun k=>if k=0 then callD T n else callD T (n+1)) (callD T (n+1)):=fun f args G=>by
          have:=Lim.two.2 (callD_up T n f args G)
          refine ⟨fun k r e=>?_,fun r=>⟨fun e=>?_,fun ⟨k,e⟩=>?_⟩⟩
          · have:=this.up k r;cases k <;> simp_all
          · exact ⟨1,by simpa using e⟩
          · exact (this.lim r).2 ⟨k,by cases k <;> simp_all⟩
        have hl:∀ m,LimL (fun k=>loopD (if k=0 then callD T n else callD T (n+1)) m) (loopD (callD T (n+1)) m):=fun m=>lim_loop hC m
        have h1:=lim_ex hC (hl n) d.body (initTm d.ntmps args) G
        have hl2:LimL (fun k=>if k=0 then loopD (callD T (n+1)) n else loopD (callD T (n+1)) (n+1)) (loopD (callD T (n+1)) (n+1)):=fun keep b tm G=>by
          have:=Lim.two.2 (loop_up (callD T (n+1)) n keep b tm G)
          refine ⟨fun k r e=>?_,fun r=>⟨fun e=>?_,fun ⟨k,e⟩=>?_⟩⟩
          · have:=this.up k r;cases k <;> simp_all
          · exact ⟨1,by simpa using e⟩
          · exact (this.lim r).2 ⟨k,by cases k <;> simp_all⟩
        have h2:=lim_ex (Cs:=fun _=>callD T (n+1)) (fun _ _ _=>.const _) hl2 d.body (initTm d.ntmps args) G
        unfold runD at h ⊢
        split at h
        case h_2=>exact h
        unfold runB at h ⊢
        obtain ⟨o,ho,h3⟩:=Option.bind_eq_some_iff.1 h
        refine Option.bind_eq_some_iff.2 ⟨o,?_,h3⟩
        have a:=(h1.lim o).2 ⟨0,by simpa using ho⟩
        exact (h2.lim o).2 ⟨0,by simpa using a⟩
      · cases h
    · cases h
noncomputable def callW (T:Nat→Option (Nat×DFn)):Call:=fun f args G=>limO fun n=>callD T n f args G
theorem callW_lim (T:Nat→Option (Nat×DFn)):LimC (callD T) (callW T):=fun f args G=>.of fun n r h=>callD_up T n f args G r h
theorem callW_some {T:Nat→Option (Nat×DFn)} {f:Nat} {args:List V1} {G:GH} {r:Res}:callW T f args G=some r↔∃ n,callD T n f args G=some r:=(callW_lim T f args G).lim r
theorem callW_eq {T:Nat→Option (Nat×DFn)} {f p:Nat} {d:DFn} (h:T f=some (p,d)) (args:List V1) (hp:args.length=p) (G:GH):callW T f args G=runF machW (callW T) d args G:=by
  have h1:=callW_lim T f args G
  refine Lim.eq (s:=fun n=>callD T (n+1) f args G) ⟨fun n r e=>callD_up _ _ _ _ _ _ e,fun r=>?_⟩ ?_
  · rw [h1.lim]
    exact ⟨fun ⟨n,e⟩=>⟨n,callD_up _ _ _ _ _ _ e⟩,fun ⟨n,e⟩=>⟨n+1,e⟩⟩
  · have e:(fun n=>callD T (n+1) f args G)=fun n=>runD (callD T n) n d args G:=by
      funext n
      simp only [callD,h,hp]
      rw [(Nat.beq_eq ▸ rfl:Nat.beq p p=true)]
    rw [e]
    exact runD_W (callW_lim T) d args G
end Go.Proofs.D
/- How a state of the small machine and a state of the model belong together. -/
set_option linter.unusedVariables false
namespace Go.Proofs.D
open Go

structure R2 {α β:Type} (R:α→β→Prop) (xs:List α) (ys:List β):Prop where
  len:xs.length=ys.length
  get:∀ (i:Nat) (x:α),xs[i]? = some x→∃ y,ys[i]? = some y∧R x y
section
variable {α β:Type} {R S:α→β→Prop} {xs xs':List α} {ys ys':List β}
theorem R2.mono (h:R2 R xs ys) (f:∀ x y,R x y→S x y):R2 S xs ys:=⟨h.len,fun i x hx=>let ⟨y,hy,r⟩:=h.get i x hx;⟨y,hy,f _ _ r⟩⟩
theorem R2.nil:R2 R [] []:=⟨rfl,fun i x h=>by simp at h⟩
theorem R2.cons {x:α} {y:β} (r:R x y) (h:R2 R xs ys):R2 R (x::xs) (y::ys):=⟨by simp [h.len],fun i z hz=>by
  cases i with
  | zero=>simp at hz;subst hz;exact ⟨y,by simp,r⟩
  | succ i=>simp at hz;obtain ⟨u,hu,ru⟩:=h.get i z hz;exact ⟨u,by simpa using hu,ru⟩⟩
theorem R2.uncons {x:α} (h:R2 R (x::xs) ys):∃ y zs,ys=y::zs∧R x y∧R2 R xs zs:=by
  cases ys with
  | nil=>have:=h.len;simp at this
  | cons y zs =>
    obtain ⟨u,hu,ru⟩:=h.get 0 x (by simp)
    simp at hu;subst hu
    exact ⟨y,zs,rfl,ru,by have:=h.len;simpa using this,fun i z hz=>by obtain ⟨u,hu,ru⟩:=h.get (i+1) z (by simpa using hz);exact ⟨u,by simpa using hu,ru⟩⟩
theorem R2.nil_inv (h:R2 R [] ys):ys=[]:=by cases ys with | nil=>rfl | cons=>have:=h.len;simp at this
theorem R2.append (h:R2 R xs ys) (h':R2 R xs' ys'):R2 R (xs++xs') (ys++ys'):=by
  refine ⟨by simp [h.len,h'.len],fun i x hx=>?_⟩
  by_cases hi:i<xs.length
  · rw [List.getElem?_append_left hi] at hx;rw [List.getElem?_append_left (h.len ▸ hi)];exact h.get i x hx
  · rw [List.getElem?_append_right (by omega)] at hx;rw [List.getElem?_append_right (by have:=h.len;omega),← h.len];exact h'.get _ x hx
theorem R2.take (h:R2 R xs ys) (n:Nat):R2 R (xs.take n) (ys.take n):=by
  refine ⟨by simp [h.len],fun i x hx=>?_⟩
  rw [List.getElem?_take] at hx ⊢
  split at hx
  · rename_i hi;simp only [hi,if_true];exact h.get i x hx
  · cases hx
theorem R2.drop (h:R2 R xs ys) (n:Nat):R2 R (xs.drop n) (ys.drop n) :=
  ⟨by simp [h.len],fun i x hx=>by rw [List.getElem?_drop] at hx ⊢;exact h.get _ x hx⟩
theorem R2.rep {x:α} {y:β} (r:R x y) (n:Nat):R2 R (List.replicate n x) (List.replicate n y) :=
  ⟨by simp,fun i z hz=>by rw [List.getElem?_replicate] at hz ⊢;split at hz <;> simp_all⟩
end

structure Loc where
  blk:Nat
  sh:Nat
  lim:Nat
abbrev Phi:=Nat→Option Loc
def Phi.le (φ ψ:Phi):Prop:=∀ id L,φ id=some L→ψ id=some L
theorem Phi.le.refl (φ:Phi):φ.le φ:=fun _ _ h=>h
theorem Phi.le.trans {φ ψ χ:Phi} (h:φ.le ψ) (k:ψ.le χ):φ.le χ:=fun i L x=>k i L (h i L x)
def Phi.put (φ:Phi) (id:Nat) (L:Loc):Phi:=fun j=>if j=id then some L else φ j
theorem Phi.put_self (φ:Phi) (id:Nat) (L:Loc):φ.put id L id=some L:=by simp [Phi.put]
theorem Phi.le_put {φ:Phi} {id:Nat} (L:Loc) (h:φ id=none):φ.le (φ.put id L):=fun j M hj=>by
  unfold Phi.put;split
  · rename_i e;subst e;rw [h] at hj;cases hj
  · exact hj

def CRel (φ:Phi):Cell→Value→Prop
  | .int k n,v=>v = .int k n
  | .bool b,v=>v = .bool b
  | .ptr id off,v=>(id=0∧v = .pointer none)∨(id≠0∧∃ L,φ id=some L∧v = .pointer (some ⟨L.blk,L.sh+off,none⟩))
  | .sl es id off len,v=>(id=0∧off=0∧len=0∧v = .slice none 0 0) ∨
      (id≠0∧∃ L o cap,φ id=some L∧v = .slice (some ⟨L.blk,o,none⟩) len cap∧len≤cap∧((o=L.sh+off∧o+cap*es=L.lim)∨(cap=0∧L.sh+off=L.lim)))
  | .map id,v=>(id=0∧v = .map none)∨(id≠0∧∃ L,φ id=some L∧v = .map (some L.blk))
  | .fn f,v=>v = .func (.func f) #[] #[]
  | .str l,v=>v = .string ⟨l.toArray⟩
theorem CRel.mono {φ ψ:Phi} (l:φ.le ψ) {c:Cell} {v:Value} (h:CRel φ c v):CRel ψ c v:=by
  cases c with
  | int | bool | fn | str=>exact h
  | ptr id off=>exact h.imp (fun x=>x) fun ⟨a,L,b,c⟩=>⟨a,L,l _ _ b,c⟩
  | sl es id off len=>exact h.imp (fun x=>x) fun ⟨a,L,o,cap,b,c⟩=>⟨a,L,o,cap,l _ _ b,c⟩
  | map id=>exact h.imp (fun x=>x) fun ⟨a,L,b,c⟩=>⟨a,L,l _ _ b,c⟩
theorem CRel.one {φ:Phi} {c:Cell} {v:Value} (h:CRel φ c v):v.oneCell' = true:=by
  cases c with
  | int | bool | fn | str=>cases h;rfl
  | ptr=>rcases h with ⟨_,rfl⟩ | ⟨_,_,_,rfl⟩ <;> rfl
  | sl=>rcases h with ⟨_,_,_,rfl⟩ | ⟨_,_,_,_,_,rfl,_⟩ <;> rfl
  | map=>rcases h with ⟨_,rfl⟩ | ⟨_,_,_,rfl⟩ <;> rfl
theorem CRel.cells {φ:Phi} {c:Cell} {v:Value} (h:CRel φ c v):v.cells = #[v]:=by
  cases c with
  | int | bool | fn | str=>cases h;rfl
  | ptr=>rcases h with ⟨_,rfl⟩ | ⟨_,_,_,rfl⟩ <;> rfl
  | sl=>rcases h with ⟨_,_,_,rfl⟩ | ⟨_,_,_,_,_,rfl,_⟩ <;> rfl
  | map=>rcases h with ⟨_,rfl⟩ | ⟨_,_,_,rfl⟩ <;> rfl
def V1Rel (φ:Phi):V1→Value→Prop
  | .c x,v=>CRel φ x v
  | .agg cs,v=>∃ arr,v = .agg arr∧R2 (CRel φ) cs arr.toList
theorem V1Rel.mono {φ ψ:Phi} (l:φ.le ψ) {c:V1} {v:Value} (h:V1Rel φ c v):V1Rel ψ c v:=by
  cases c with
  | c x=>exact CRel.mono l h
  | agg cs=>obtain ⟨arr,e,r⟩:=h;exact ⟨arr,e,r.mono fun _ _=>CRel.mono l⟩
theorem V1Rel.cells {φ:Phi} {x:V1} {v:Value} (h:V1Rel φ x v):R2 (CRel φ) x.cells v.cells.toList:=by
  cases x with
  | c x=>rw [CRel.cells h];exact R2.cons h R2.nil
  | agg cs=>obtain ⟨arr,rfl,r⟩:=h;exact r
theorem R2.one {φ:Phi} {cs:List Cell} {vs:List Value} (h:R2 (CRel φ) cs vs):∀ v∈vs,v.oneCell' = true:=by
  intro v hv
  obtain ⟨i,hi,rfl⟩:=List.getElem_of_mem hv
  obtain ⟨y,hy,r⟩:=h.get i (cs[i]'(by rw [h.len];exact hi)) (List.getElem?_eq_getElem _)
  rw [List.getElem?_eq_getElem hi] at hy
  cases hy;exact r.one
def RRel (φ:Phi) (vs:List V1) (v:Value):Prop:=match vs with
  | [x]=>V1Rel φ x v
  | vs=>∃ arr,v = .tuple arr∧R2 (V1Rel φ) vs arr.toList
def TRel (φ:Phi) (β:Nat→Nat):TV→Value→Prop
  | .und,_=>True
  | .no,v=>v=undef
  | .v x,v=>V1Rel φ x v
  | .tup vs,v=>∃ arr,v = .tuple arr∧R2 (V1Rel φ) vs arr.toList
  | .pt id off,v=>id≠0∧∃ L,φ id=some L∧v = .pointer (some ⟨L.blk,L.sh+off,none⟩)
  | .ref b off,v=>v = .pointer (some ⟨β b,off,none⟩)
  | .box _,_=>False
theorem TRel.mono {φ ψ:Phi} (l:φ.le ψ) {β:Nat→Nat} {x:TV} {v:Value} (h:TRel φ β x v):TRel ψ β x v:=by
  cases x with
  | und | no | ref | box=>exact h
  | v x=>exact V1Rel.mono l h
  | tup vs=>obtain ⟨arr,e,r⟩:=h;exact ⟨arr,e,r.mono fun _ _=>V1Rel.mono l⟩
  | pt id off=>obtain ⟨a,L,b,c⟩:=h;exact ⟨a,L,l _ _ b,c⟩

def Obj.own:Obj→Bool
  | .row _ fz=>!fz
  | .map _ _=>true
  | .lit _=>true
def ERel (φ:Phi) (p:V1×V1) (e:MapEntry):Prop:=V1Rel φ p.1 e.key∧V1Rel φ p.2 e.val
def ObjR (base:Nat) (φ:Phi) (w:World) (o:Obj) (L:Loc):Prop:=match o with
  | .row cs fz=>∃ c e r,w.heap[L.blk]? = some (.cells c e r)∧L.sh+cs.length≤L.lim∧L.lim≤c.size ∧
      (∀ i x,cs[i]? = some x→∃ v,c[L.sh+i]? = some v∧CRel φ x v)∧(fz=false→r=(0,0)∧base≤L.blk)∧(fz=true→L.blk<base)
  | .lit cs=>∃ c e r,w.heap[L.blk]? = some (.cells c e r)∧L.sh+cs.length≤L.lim∧L.lim≤c.size∧(∀ i x,cs[i]? = some x→∃ v,c[L.sh+i]? = some v∧CRel φ x v)∧base≤L.blk
  | .map ks es=>∃ ents clock,w.heap[L.blk]? = some (.map ents clock)∧base≤L.blk∧R2 (ERel φ) es ents.toList∧∀ p∈es,keyOk ks p.1=true
abbrev Hp:=Nat→Option Obj
structure HRel (base:Nat) (φ:Phi) (h:Hp) (w:World):Prop where
  zero:h 0=none
  obj:∀ id o,h id=some o→∃ L,φ id=some L∧ObjR base φ w o L
  inj:∀ i j oi oj L M,h i=some oi→h j=some oj→oi.own=true→oj.own=true→φ i=some L→φ j=some M→L.blk=M.blk→i=j
theorem ObjR.blk {base:Nat} {φ:Phi} {w:World} {o:Obj} {L:Loc} (h:ObjR base φ w o L):L.blk<w.heap.size:=by
  cases o with
  | row cs fz=>obtain ⟨c,e,r,hh,_⟩:=h;exact (Array.getElem?_eq_some_iff.1 hh).1
  | map ks es=>obtain ⟨c,e,hh,_⟩:=h;exact (Array.getElem?_eq_some_iff.1 hh).1
  | lit cs=>obtain ⟨c,e,r,hh,_⟩:=h;exact (Array.getElem?_eq_some_iff.1 hh).1
theorem ObjR.base_le {base:Nat} {φ:Phi} {w:World} {o:Obj} {L:Loc} (h:ObjR base φ w o L) (ho:o.own=true):base≤L.blk:=by
  cases o with
  | row cs fz=>obtain ⟨c,e,r,_,_,_,_,h1,_⟩:=h;exact (h1 (by simpa [Obj.own] using ho)).2
  | map ks es=>obtain ⟨c,e,_,h1,_⟩:=h;exact h1
  | lit cs=>obtain ⟨c,e,r,_,_,_,_,h1⟩:=h;exact h1
theorem ObjR.lt_base {base:Nat} {φ:Phi} {w:World} {o:Obj} {L:Loc} (h:ObjR base φ w o L) (ho:o.own=false):L.blk<base:=by
  cases o with
  | row cs fz=>obtain ⟨c,e,r,_,_,_,_,_,h1⟩:=h;exact h1 (by simpa [Obj.own] using ho)
  | map ks es=>simp [Obj.own] at ho
  | lit cs=>simp [Obj.own] at ho
theorem ObjR.keep {base:Nat} {φ ψ:Phi} {w w':World} {o:Obj} {L:Loc} (h:ObjR base φ w o L) (l:φ.le ψ) (hw:w'.heap[L.blk]? = w.heap[L.blk]?):ObjR base ψ w' o L:=by
  cases o with
  | row cs fz =>
    obtain ⟨c,e,r,hh,a,b,g,i⟩:=h
    exact ⟨c,e,r,hw ▸ hh,a,b,fun i x hx=>let ⟨v,hv,k⟩:=g i x hx;⟨v,hv,k.mono l⟩,i⟩
  | map ks es =>
    obtain ⟨c,e,hh,b,r,k⟩:=h
    exact ⟨c,e,hw ▸ hh,b,r.mono fun _ _ k=>⟨k.1.mono l,k.2.mono l⟩,k⟩
  | lit cs =>
    obtain ⟨c,e,r,hh,a,b,g,i⟩:=h
    exact ⟨c,e,r,hw ▸ hh,a,b,fun i x hx=>let ⟨v,hv,k⟩:=g i x hx;⟨v,hv,k.mono l⟩,i⟩
def OwnB (φ:Phi) (h:Hp) (b:Nat):Prop:=∃ id o L,h id=some o∧o.own=true∧φ id=some L∧L.blk=b
def Look (base:Nat) (φ:Phi) (G:GH) (w:World):Prop:=∀ id o L,G.get id=some o→φ id=some L→ObjR base φ w o L
theorem HRel.look {base:Nat} {φ:Phi} {G:GH} {w:World} (H:HRel base φ G.get w):Look base φ G w:=fun id o L h hL=>by
  obtain ⟨L',hL',k⟩:=H.obj id o h
  rw [hL] at hL';cases hL';exact k
theorem HRel.keep {base:Nat} {φ ψ:Phi} {h:Hp} {w w':World} (H:HRel base φ h w) (l:φ.le ψ) (hw:∀ id o L,h id=some o→φ id=some L→w'.heap[L.blk]? = w.heap[L.blk]?):HRel base ψ h w' where
  zero:=H.zero
  obj:=fun id o ho=>let ⟨L,hL,k⟩:=H.obj id o ho;⟨L,l _ _ hL,k.keep l (hw id o L ho hL)⟩
  inj:=fun i j oi oj L M hi hj ki kj hL hM e=>by
    obtain ⟨L',hL',_⟩:=H.obj i oi hi
    obtain ⟨M',hM',_⟩:=H.obj j oj hj
    have e1:=l _ _ hL';have e2:=l _ _ hM'
    rw [hL] at e1;rw [hM] at e2;cases e1;cases e2
    exact H.inj i j oi oj L M hi hj ki kj hL' hM' e
theorem HRel.restrict {base:Nat} {φ:Phi} {h h':Hp} {w:World} (H:HRel base φ h w) (hs:∀ id o,h' id=some o→h id=some o):HRel base φ h' w where
  zero:=by cases e:h' 0 with
    | none=>rfl
    | some o=>have:=hs 0 o e;rw [H.zero] at this;cases this
  obj:=fun id o ho=>H.obj id o (hs id o ho)
  inj:=fun i j oi oj L M hi hj=>H.inj i j oi oj L M (hs _ _ hi) (hs _ _ hj)
theorem HRel.step {base:Nat} {φ ψ:Phi} {h h':Hp} {w w':World} (H:HRel base φ h w) (l:φ.le ψ) {id:Nat} {o:Obj} {L:Loc} (h0:id≠0) (hL:ψ id=some L) (hO:ObjR base ψ w' o L)
    (hid:h' id=some o)
    (rest:∀ j oj,j≠id→h' j=some oj→h j=some oj∧∀ M,φ j=some M→w'.heap[M.blk]? = w.heap[M.blk]?∧(oj.own=true→o.own=true→M.blk≠L.blk)):HRel base ψ h' w' where
  zero:=by
    cases e:h' 0 with
    | none=>rfl
    | some oj=>have:=(rest 0 oj (fun x=>h0 x.symm) e).1;rw [H.zero] at this;cases this
  obj:=fun j oj hj=>by
    by_cases e:j=id
    · subst e;rw [hid] at hj;cases hj;exact ⟨L,hL,hO⟩
    · obtain ⟨a,b⟩:=rest j oj e hj
      obtain ⟨M,hM,k⟩:=H.obj j oj a
      exact ⟨M,l _ _ hM,k.keep l (b M hM).1⟩
  inj:=fun i j oi oj L1 M1 hi hj ki kj hL1 hM1 e=>by
    have other:∀ j oj M,j≠id→h' j=some oj→ψ j=some M→h j=some oj∧φ j=some M:=fun j oj M ne hj hM=>by
      obtain ⟨a,b⟩:=rest j oj ne hj
      obtain ⟨M',hM',_⟩:=H.obj j oj a
      have:=l _ _ hM';rw [hM] at this;cases this;exact ⟨a,hM'⟩
    by_cases ei:i=id
    · by_cases ej:j=id
      · rw [ei,ej]
      · subst ei;rw [hid] at hi;cases hi;rw [hL] at hL1;cases hL1
        have:=((rest j oj ej hj).2 M1 (other j oj M1 ej hj hM1).2).2 kj ki
        exact absurd e.symm this
    · by_cases ej:j=id
      · subst ej;rw [hid] at hj;cases hj;rw [hL] at hM1;cases hM1
        have:=((rest i oi ei hi).2 L1 (other i oi L1 ei hi hL1).2).2 ki kj
        exact absurd e this
      · have a:=other i oi L1 ei hi hL1;have b:=other j oj M1 ej hj hM1
        exact H.inj i j oi oj L1 M1 a.1 b.1 ki kj a.2 b.2 e
theorem Tr.get_set (f:Nat):∀ (t:Tr) (k j:Nat) (o:Option Obj),k<f→(Tr.set f t k o).get j=if j=k then o else t.get j:=by
  induction f with
  | zero=>intro t k j o h;omega
  | succ f ih =>
    intro t k j o hk
    cases k with
    | zero =>
      cases j with
      | zero=>simp [Tr.set,Tr.get]
      | succ j=>cases t <;> simp [Tr.set,Tr.get] <;> (cases Nat.mod_two_eq_zero_or_one j <;> simp_all)
    | succ k =>
      cases j with
      | zero =>
        simp only [Tr.set]
        split <;> cases t <;> simp [Tr.get]
      | succ j =>
        have hk2:k / 2<f:=by omega
        have e2:(j+1=k+1)↔j=k:=by omega
        simp only [Tr.set,e2]
        have key:∀ a b:Nat,a % 2=b % 2→(a / 2=b / 2↔a=b):=fun a b h=>by omega
        rcases Nat.mod_two_eq_zero_or_one k with mk | mk <;> rcases Nat.mod_two_eq_zero_or_one j with mj | mj <;> simp only [mk]
        · cases t <;> simp only [Tr.get,mj,ih _ _ _ _ hk2,key j k (by omega)]
        · have:j≠k:=by omega
          cases t <;> simp [Tr.get,mj,this]
        · have:j≠k:=by omega
          cases t <;> simp [Tr.get,mj,this]
        · cases t <;> simp only [Tr.get,mj,ih _ _ _ _ hk2,key j k (by omega)]
theorem GH.get_set (G:GH) (id j:Nat) (o:Option Obj):(G.set id o).get j=if j=id then o else G.get j:=Tr.get_set _ _ _ _ _ (Nat.lt_succ_self _)
theorem GH.get_alloc (G:GH) (j:Nat) (o:Obj):(G.alloc o).get j=if j=G.next then some o else G.get j:=Tr.get_set _ _ _ _ _ (Nat.lt_succ_self _)
theorem GH.next_set (G:GH) (id:Nat) (o:Option Obj):(G.set id o).next=G.next:=rfl
theorem GH.next_alloc (G:GH) (o:Obj):(G.alloc o).next=G.next+1:=rfl
def GH.wf (G:GH):Prop:=(∀ id,G.next≤id→G.get id=none)∧1≤G.next
end Go.Proofs.D
/- When an operation of the small machine is an operation of the model's: a test that is reckoned. -/
set_option linter.unusedVariables false
namespace Go.Proofs.D
open Go

def okCell:Value→Cell→Bool
  | .int k n,.int k' n'=>decide (k=k')&&decide (n=n')
  | .bool b,.bool b'=>b == b'
  | .pointer none,.ptr 0 0=>true
  | .slice none 0 0,.sl _ 0 0 0=>true
  | .map none,.map 0=>true
  | .string b,.str l=>decide (b.data.toList=l)
  | _,_=>false
def okCells:List Value→List Cell→Bool
  | [],[]=>true
  | v::vs,c::cs=>okCell v c&&okCells vs cs
  | _,_=>false
def okV:Value→V1→Bool
  | .agg arr,.agg cs=>okCells arr.toList cs
  | v,.c c=>okCell v c
  | _,_=>false
def okSrc (nr:Nat):Operand→Src→Bool
  | .tmp t,.t n=>Nat.beq t n&&Nat.ble (n+1) nr
  | .const v,.k x=>okV v x
  | .func f,.k (.c (.fn g))=>Nat.beq f g
  | _,_=>false
def okSrcs (nr:Nat):List Operand→List Src→Bool
  | [],[]=>true
  | o::os,s::ss=>okSrc nr o s&&okSrcs nr os ss
  | _,_=>false
def okTmp (nr:Nat):Operand→Nat→Bool
  | .tmp t,n=>Nat.beq t n&&Nat.ble (n+1) nr
  | _,_=>false
section
variable (P:Program)
def tSize (t:TypeId) (n:Nat):Bool:=match P.info? t with
  | some i=>Nat.beq i.size n
  | none=>false
def tBytes (t:TypeId) (n:Nat):Bool:=match P.info? t with
  | some i=>Nat.beq i.bytes n
  | none=>false
def tZero (t:TypeId) (cs:List Cell):Bool:=match P.info? t with
  | some i=>match i.zero with
    | some z=>okCells z.cells.toList cs&&Nat.beq i.size cs.length
    | none=>false
  | none=>false
def tZeroV (t:TypeId) (x:V1):Bool:=match P.info? t with
  | some i=>match i.zero with
    | some z=>okV z x
    | none=>false
  | none=>false
def tAgg (t:TypeId) (b:Bool):Bool:=match P.underlying t with
  | some (.struct _)=>b
  | some (.array _ _)=>b
  | some _=>!b
  | none=>false
def tVS (t:TypeId):VS→Bool
  | .c _=>tAgg P t false
  | .agg ss=>tAgg P t true&&tSize P t ss.length
def tInt (t:TypeId) (k:IntKind):Bool:=match P.underlying t with
  | some (.int k')=>decide (k' = k)
  | _=>false
def tSlice (t:TypeId) (es:Nat):Bool:=match P.underlying t with
  | some (.slice e)=>tSize P e es&&!Nat.beq es 0
  | _=>false
def okParts (nr:Nat) (place:Nat→Option (Nat×Nat)):List (Nat×Operand)→List (Nat×Nat×Src)→Bool
  | [],[]=>true
  | (i,o)::ps,(off,n,s)::qs=>(match place i with | some (a,b)=>Nat.beq a off&&Nat.beq b n | none=>false)&&okSrc nr o s&&okParts nr place ps qs
  | _,_=>false
def placesOf (fs:List Field):Option (List (Nat×Nat)):=fs.mapM fun f=>(P.info? f.type).map fun i=>(f.offset,i.size)
def fieldSh (f:Field) (s:Sh) (i:Nat):Bool:=decide (f.name≠ "_")&&Nat.beq f.offset i&&(match P.underlying f.type,s with
  | some (.int _),.int _=>true
  | some .bool,.bool=>true
  | _,_=>false)
def fieldsSh:List Field→List Sh→Nat→Bool
  | [],[],_=>true
  | f::fs,s::ss,i=>fieldSh P f s i&&fieldsSh fs ss (i+1)
  | _,_,_=>false
def okBin:BinOp→Bin→Bool
  | .add,.add | .sub,.sub | .mul,.mul | .quo,.quo | .rem,.rem | .and,.and | .or,.or | .xor,.xor | .andNot,.andNot | .shl,.shl | .shr,.shr=>true
  | _,_=>false
def okCmp:BinOp→Cmp→Bool
  | .eql,.eql | .neq,.neq | .lss,.lss | .leq,.leq | .gtr,.gtr | .geq,.geq=>true
  | _,_=>false
def okNeg:BinOp→Bool→Bool
  | .eql,b=>!b
  | .neq,b=>b
  | _,_=>false
def isNilP:Operand→Bool
  | .const (.pointer none)=>true
  | _=>false
def isNilS:Operand→Bool
  | .const (.slice none 0 0)=>true
  | _=>false
def okOpt (nr:Nat):Option Operand→Option Src→Bool
  | none,none=>true
  | some o,some s=>okSrc nr o s
  | _,_=>false
def allInt:List Sh→Bool
  | []=>true
  | .int _::ss=>allInt ss
  | _=>false
def plainKey (t:TypeId) (ks:VS):Bool:=match P.underlying t,ks with
  | some (.int _),.c (.int _)=>true
  | some (.struct fs),.agg ss=>fieldsSh P fs.toList ss 0&&allInt ss&&!P.stoodInHeld t
  | _,_=>false
def okOp (nr:Nat) (o:Oper):DOp→Bool
  | .move x=>match o.op with
    | .move y | .assign y=>okSrc nr y x
    | _=>false
  | .nilck x=>match o.op with
    | .nilCheck y=>okSrc nr y x
    | _=>false
  | .pick c a b=>match o.op with
    | .pick c' a' b'=>okSrc nr c' c&&okSrc nr a' a&&okSrc nr b' b
    | _=>false
  | .boxz _ _ cs | .newz cs=>match o.op with
    | .alloc t=>tZero P t cs
    | _=>false
  | .boxv _ _ x n | .newv x n=>match o.op with
    | .box t y=>okSrc nr y x
    | _=>false
  | .build zero parts=>match o.op with
    | .build t ps=>tZero P t zero&&(match P.underlying t with
      | some (.struct fs)=>(match placesOf P fs.toList with
        | some places=>okParts nr (places[·]?) ps.toList parts
        | none=>false)
      | _=>false)
    | _=>false
  | .bslice len es zero parts=>match o.op with
    | .buildSlice t n ps=>Nat.beq n len&&tSlice P t es&&(match P.underlying t with
      | some (.slice e)=>(match P.info? e with
        | some i=>(match i.zero with
          | some z=>Nat.beq z.cells.size es&&okCells ((Array.range (len*es)).map (z.cells[· % z.cells.size]!)).toList zero
          | none=>false)
        | none=>false)&&okParts nr (fun i=>some (i*es,es)) ps.toList parts
      | _=>false)&&Nat.ble (len*es) 16777216
    | _=>false
  | .ldL a _ s | .ldG a s=>match o.op with
    | .load t y=>okTmp nr y a&&tVS P t s
    | _=>false
  | .stL a _ x n | .stG a x n=>match o.op with
    | .store t y z=>okTmp nr y a&&okSrc nr z x&&tSize P t n
    | _=>false
  | .faddr a off=>match o.op with
    | .fieldAddr t y f=>okTmp nr y a&&(match P.underlying t with
      | some (.struct fs)=>match fs[f]? with
        | some fd=>Nat.beq fd.offset off&&(match P.info? fd.type with | some i=>!Nat.beq i.size 0 | none=>false)
        | none=>false
      | _=>false)
    | _=>false
  | .iaddr x i es=>match o.op with
    | .indexAddr t y j=>okSrc nr y x&&okSrc nr j i&&tSlice P t es
    | _=>false
  | .iaddrA a i len es=>match o.op with
    | .indexAddr t y j=>okTmp nr y a&&okSrc nr j i&&(match P.underlying t with
      | some (.array n e)=>Nat.beq n len&&tSize P e es&&!Nat.beq es 0
      | _=>false)
    | _=>false
  | .bin op k x y=>match o.op with
    | .binOp b _ x' y' _=>okBin b op&&okSrc nr x' x&&okSrc nr y' y
    | .unOp .xor _ y'=>decide (op = .xor)&&(match x with | .k (.c (.int k' n))=>decide (k' = k)&&decide (n=if k.signed then -1 else k.max) | _=>false)&&okSrc nr y' y
    | _=>false
  | .cmp op k x y=>match o.op with
    | .binOp b _ x' y' _=>okCmp b op&&okSrc nr x' x&&okSrc nr y' y
    | _=>false
  | .beq neg x y=>match o.op with
    | .binOp b t x' y' _=>okNeg b neg&&okSrc nr x' x&&okSrc nr y' y&&(match P.underlying t with | some .bool=>true | _=>false)
    | _=>false
  | .aeq neg ss x y=>match o.op with
    | .binOp b t x' y' _=>okNeg b neg&&okSrc nr x' x&&okSrc nr y' y&&(match P.underlying t with
      | some (.struct fs)=>fieldsSh P fs.toList ss 0
      | _=>false)&&!P.stoodInHeld t&&!P.eqGuardType P.depth t
    | _=>false
  | .pnil neg x=>match o.op with
    | .binOp b t x' y' _=>okNeg b neg&&((isNilP y'&&okSrc nr x' x)||(isNilP x'&&okSrc nr y' x))&&(match P.underlying t with | some (.pointer _)=>true | _=>false)
    | _=>false
  | .snil neg x=>match o.op with
    | .binOp b t x' y' _=>okNeg b neg&&((isNilS y'&&okSrc nr x' x)||(isNilS x'&&okSrc nr y' x))&&(match P.underlying t with | some (.slice _)=>true | _=>false)
    | _=>false
  | .not x=>match o.op with
    | .unOp .not _ y=>okSrc nr y x
    | _=>false
  | .conv k x=>match o.op with
    | .convert s t y=>okSrc nr y x&&tInt P t k&&(P.underlying s).isSome
    | _=>false
  | .slice x lo hi es=>match o.op with
    | .slice t y l h none=>okSrc nr y x&&okOpt nr l lo&&okOpt nr h hi&&tSlice P t es
    | _=>false
  | .mkslice n es bytes zero=>match o.op with
    | .makeSlice t y z=>okSrc nr y n&&okSrc nr z n&&tSlice P t es&&(match P.underlying t with
      | some (.slice e)=>tZero P e zero&&tBytes P e bytes
      | _=>false)&&Nat.ble bytes 128&&Nat.beq zero.length es
    | _=>false
  | .len x=>match o.op with
    | .call c=>(match c.callee with | .builtin .len=>true | _=>false)&&okSrcs nr c.args.toList [x]&&(match c.argTypes[0]? with
      | some t=>(match P.underlying t with | some (.slice _)=>true | _=>false)
      | none=>false)
    | _=>false
  | .app x y es bytes=>match o.op with
    | .call c=>(match c.callee with | .builtin .append=>true | _=>false)&&okSrcs nr c.args.toList [x,y]&&(match c.argTypes[0]?,c.argTypes[1]? with
      | some t,some u=>tSlice P t es&&(match P.underlying t with
        | some (.slice e)=>tBytes P e bytes&&(match P.info? e with
          | some i=>(match i.zero with | some z=>Nat.beq z.cells.size es | none=>false)
          | none=>false)
        | _=>false)&&(match P.underlying u with | some (.slice _)=>true | _=>false)
      | _,_=>false)&&Nat.ble bytes 128&&!Nat.beq bytes 0
    | _=>false
  | .callT x args rs=>match o.op with
    | .call c=>(match c.callee with | .value v=>okSrc nr v x | _=>false)&&okSrcs nr c.args.toList args
    | _=>false
  | .copy x y es=>match o.op with
    | .call c=>(match c.callee with | .builtin .copy=>true | _=>false)&&okSrcs nr c.args.toList [x,y]&&Nat.beq es 1&&(match c.argTypes[0]? with
      | some t=>tSlice P t 1
      | none=>false)&&(match c.argTypes[1]? with
      | some u=>(match P.underlying u with | some (.slice _)=>true | _=>false)
      | none=>false)
    | _=>false
  | .clear x zero=>match o.op with
    | .call c=>(match c.callee with | .builtin .clear=>true | _=>false)&&(match zero with
      | [.int k n]=>okSrcs nr c.args.toList [x]&&(match c.argTypes[0]? with
        | some t=>(match P.underlying t with
          | some (.slice e)=>(match P.info? e with
            | some i=>(match i.zero with
              | some z=>okCell z (.int k n)&&Nat.beq i.size 1
              | none=>false)
            | none=>false)
          | _=>false)
        | none=>false)
      | _=>false)
    | _=>false
  | .sbytes x=>match o.op with
    | .convert s t y=>okSrc nr y x&&(P.underlying s).isSome&&(match P.underlying t with
      | some (.slice e)=>(match P.underlying e with | some (.int .u8)=>true | _=>false)
      | _=>false)
    | _=>false
  | .mkmap ks=>match o.op with
    | .makeMap _ none=>true
    | _=>false
  | .lkup ks m key zero s ok=>match o.op with
    | .lookup t y z c=>okSrc nr y m&&okSrc nr z key&&(c == ok)&&(match P.underlying t with
      | some (.map kt e)=>plainKey P kt ks&&tZeroV P e zero
      | _=>false)
    | _=>false
  | .mupd ks m key x=>match o.op with
    | .mapUpdate t y z v | .insert t y z v=>okSrc nr y m&&okSrc nr z key&&okSrc nr v x&&(match P.underlying t with
      | some (.map kt e)=>plainKey P kt ks
      | _=>false)
    | _=>false
  | .del ks m key=>match o.op with
    | .call c=>(match c.callee with | .builtin .delete=>true | _=>false)&&okSrcs nr c.args.toList [m,key]&&(match c.argTypes[0]? with
      | some t=>(match P.underlying t with
        | some (.map kt e)=>plainKey P kt ks
        | _=>false)
      | none=>false)
    | _=>false
  | .ext x i=>match o.op with
    | .extract y j=>okTmp nr y x&&Nat.beq i j
    | _=>false
  | .fld x off n agg=>match o.op with
    | .field t y f=>okSrc nr y x&&(match P.underlying t with
      | some (.struct fs)=>match fs[f]? with
        | some fd=>Nat.beq fd.offset off&&tSize P fd.type n&&tAgg P fd.type agg
        | none=>false
      | _=>false)
    | _=>false
  | .mx x xs=>match o.op with
    | .call c=>(match c.callee with | .builtin .max=>true | _=>false)&&okSrcs nr c.args.toList (x::xs)
    | _=>false
  | .mn x xs=>match o.op with
    | .call c=>(match c.callee with | .builtin .min=>true | _=>false)&&okSrcs nr c.args.toList (x::xs)
    | _=>false
  | .call f args rs=>match o.op with
    | .call c=>(match c.callee with | .value (.func g)=>Nat.beq f g | _=>false)&&okSrcs nr c.args.toList args&&(match P.funcs[f]? with
      | some fn=>fn.body.isSome&&!(fn.name == "runtime.NumGoroutine")&&Nat.beq fn.results.size rs.length
      | none=>false)
    | _=>false
  | _=>false
end
end Go.Proofs.D
/- Each operation of the small machine is what the model's operation does: those that look at slots alone. -/
set_option linter.unusedVariables false
namespace Go.Proofs.D
open Go

def Rd (φ:Phi) (β:Nat→Nat) (a:Act) (tm:TM) (n:Nat):Prop :=
  ∀ x,tm[n]? = some x→x≠.und→(∀ cs,x≠.box cs)→∃ v,a.tmps[n]? = some v∧TRel φ β x v
def Src.rd:Src→List Nat
  | .t n=>[n]
  | .k _=>[]
def rdAll:List Src→List Nat
  | []=>[]
  | s::ss=>s.rd++rdAll ss
def optRd:Option Src→List Nat
  | none=>[]
  | some s=>s.rd
def DOp.rd:DOp→List Nat
  | .move x | .nilck x | .boxv _ _ x _ | .newv x _ | .not x | .conv _ x | .len x | .mlen _ x | .pnil _ x | .snil _ x | .clear x _ | .mkslice x _ _ _ | .fld x _ _ _ | .sbytes x=>x.rd
  | .pick c a b=>c.rd++a.rd++b.rd
  | .boxz _ _ _ | .newz _ | .mkmap _ | .reG .. | .reK ..=>[]
  | .build _ ps | .bslice _ _ _ ps=>rdAll (ps.map (·.2.2))
  | .ldL a b _=>[a,b]
  | .ldG a _=>[a]
  | .stL a b x _=>a::b::x.rd
  | .stG a x _=>a::x.rd
  | .faddr a _=>[a]
  | .iaddr x i _=>x.rd++i.rd
  | .iaddrA a i _ _=>a::i.rd
  | .bin _ _ x y | .cmp _ _ x y | .beq _ x y | .aeq _ _ x y | .app x y _ _ | .copy x y _ | .del _ x y | .lkup _ x y _ _ _=>x.rd++y.rd
  | .slice x lo hi _=>x.rd++optRd lo++optRd hi
  | .mupd _ m k x=>m.rd++k.rd++x.rd
  | .ext x _=>[x]
  | .mx x xs | .mn x xs=>x.rd++rdAll xs
  | .call _ xs _=>rdAll xs
  | .callT x xs _=>x.rd++rdAll xs

section
variable {P:Program} {nr:Nat} {φ:Phi} {β:Nat→Nat} {a:Act} {w:World} {tm:TM} {C:Call} {G G':GH} {o:Oper}

theorem okCell_rel {v:Value} {c:Cell} (h:okCell v c=true):CRel φ c v:=by
  unfold okCell at h
  split at h
  · simp at h;obtain ⟨rfl,rfl⟩:=h;rfl
  · simp at h;subst h;rfl
  · exact .inl ⟨rfl,rfl⟩
  · exact .inl ⟨rfl,rfl,rfl,rfl⟩
  · exact .inl ⟨rfl,rfl⟩
  · rename_i b l;have e:=of_decide_eq_true h;subst e;rfl
  · cases h
theorem okCells_rel:∀ {vs:List Value} {cs:List Cell},okCells vs cs=true→R2 (CRel φ) cs vs
  | [],[],_=>R2.nil
  | v::vs,c::cs,h=>by simp [okCells] at h;exact R2.cons (okCell_rel h.1) (okCells_rel h.2)
  | [],_::_,h=>by simp [okCells] at h
  | _::_,[],h=>by simp [okCells] at h
theorem okV_rel {v:Value} {x:V1} (h:okV v x=true):V1Rel φ x v:=by
  unfold okV at h
  split at h
  · exact ⟨_,rfl,okCells_rel h⟩
  · exact okCell_rel h
  · cases h
theorem src_val {y:Operand} {s:Src} {x:V1} (hk:okSrc nr y s=true) (hg:s.get tm=some x) (hr:∀ n∈s.rd,Rd φ β a tm n):V1Rel φ x (a.eval y):=by
  unfold okSrc at hk
  split at hk
  · rename_i t n
    simp only [Bool.and_eq_true,Nat.beq_eq] at hk
    obtain ⟨rfl,_⟩:=hk
    simp only [Src.get] at hg
    obtain ⟨y,hy,hx⟩:=Option.bind_eq_some_iff.1 hg
    cases y with
    | v z =>
      simp [TV.v?] at hx;subst hx
      obtain ⟨v,hv,r⟩:=hr t (by simp [Src.rd]) _ hy (by simp) (by simp)
      simp only [Act.eval,Array.getD_eq_getD_getElem?,hv,Option.getD_some];exact r
    | pt id off =>
      simp [TV.v?] at hx;subst hx
      obtain ⟨v,hv,r⟩:=hr t (by simp [Src.rd]) _ hy (by simp) (by simp)
      simp only [Act.eval,Array.getD_eq_getD_getElem?,hv,Option.getD_some];exact .inr r
    | _=>simp [TV.v?] at hx
  · simp only [Src.get,Option.some.injEq] at hg;subst hg;exact okV_rel hk
  · simp only [Src.get,Option.some.injEq] at hg;subst hg
    simp only [Nat.beq_eq] at hk;subst hk;rfl
  · cases hk
theorem src_cell {y:Operand} {s:Src} {x:Cell} (hk:okSrc nr y s=true) (hg:s.cell tm=some x) (hr:∀ n∈s.rd,Rd φ β a tm n):CRel φ x (a.eval y):=by
  unfold Src.cell at hg
  obtain ⟨v,hv,hx⟩:=Option.bind_eq_some_iff.1 hg
  have:=src_val (a:=a) hk hv hr
  cases v with
  | c z=>simp [V1.c?] at hx;subst hx;exact this
  | agg cs=>simp [V1.c?] at hx
theorem src_int {y:Operand} {s:Src} {k:IntKind} {n:Int} (hk:okSrc nr y s=true) (hg:(s.cell tm).bind (Cell.asI k)=some n) (hr:∀ n∈s.rd,Rd φ β a tm n):a.eval y = .int k n:=by
  obtain ⟨c,hc,hn⟩:=Option.bind_eq_some_iff.1 hg
  have:=src_cell (a:=a) hk hc hr
  cases c <;> simp [Cell.asI] at hn
  obtain ⟨rfl,rfl⟩:=hn;exact this
theorem src_nat {y:Operand} {s:Src} {p:IntKind×Int} (hk:okSrc nr y s=true) (hg:(s.cell tm).bind intAny=some p) (hr:∀ n∈s.rd,Rd φ β a tm n):a.eval y = .int p.1 p.2:=by
  obtain ⟨c,hc,hn⟩:=Option.bind_eq_some_iff.1 hg
  have:=src_cell (a:=a) hk hc hr
  cases c <;> simp [intAny] at hn
  subst hn;exact this
theorem src_bool {y:Operand} {s:Src} {b:Bool} (hk:okSrc nr y s=true) (hg:(s.cell tm).bind Cell.asB=some b) (hr:∀ n∈s.rd,Rd φ β a tm n):a.eval y = .bool b:=by
  obtain ⟨c,hc,hn⟩:=Option.bind_eq_some_iff.1 hg
  have:=src_cell (a:=a) hk hc hr
  cases c <;> simp [Cell.asB] at hn
  subst hn;exact this
theorem src_sl {y:Operand} {s:Src} {es:Nat} {p:Nat×Nat×Nat} (hk:okSrc nr y s=true) (hg:(s.cell tm).bind (Cell.asS es)=some p) (hr:∀ n∈s.rd,Rd φ β a tm n):CRel φ (.sl es p.1 p.2.1 p.2.2) (a.eval y):=by
  obtain ⟨c,hc,hn⟩:=Option.bind_eq_some_iff.1 hg
  have:=src_cell (a:=a) hk hc hr
  cases c <;> simp [Cell.asS] at hn
  split at hn
  · rename_i e;simp at e;subst e;simp at hn;subst hn;exact this
  · cases hn
theorem src_slAny {y:Operand} {s:Src} {p:Nat×Nat} (hk:okSrc nr y s=true) (hg:(s.cell tm).bind Cell.asSl=some p) (hr:∀ n∈s.rd,Rd φ β a tm n):∃ es off,CRel φ (.sl es p.1 off p.2) (a.eval y):=by
  obtain ⟨c,hc,hn⟩:=Option.bind_eq_some_iff.1 hg
  have:=src_cell (a:=a) hk hc hr
  cases c <;> simp [Cell.asSl] at hn
  subst hn;exact ⟨_,_,this⟩
theorem src_ptr {y:Operand} {s:Src} {p:Nat×Nat} (hk:okSrc nr y s=true) (hg:(s.cell tm).bind Cell.asP=some p) (hr:∀ n∈s.rd,Rd φ β a tm n):CRel φ (.ptr p.1 p.2) (a.eval y):=by
  obtain ⟨c,hc,hn⟩:=Option.bind_eq_some_iff.1 hg
  have:=src_cell (a:=a) hk hc hr
  cases c <;> simp [Cell.asP] at hn
  subst hn;exact this
theorem src_map {y:Operand} {s:Src} {m:Nat} (hk:okSrc nr y s=true) (hg:(s.cell tm).bind Cell.asM=some m) (hr:∀ n∈s.rd,Rd φ β a tm n):CRel φ (.map m) (a.eval y):=by
  obtain ⟨c,hc,hn⟩:=Option.bind_eq_some_iff.1 hg
  have:=src_cell (a:=a) hk hc hr
  cases c <;> simp [Cell.asM] at hn
  subst hn;exact this
theorem src_agg {y:Operand} {s:Src} {cs:List Cell} (hk:okSrc nr y s=true) (hg:(s.get tm).bind V1.a? = some cs) (hr:∀ n∈s.rd,Rd φ β a tm n):∃ arr,a.eval y = .agg arr∧R2 (CRel φ) cs arr.toList:=by
  obtain ⟨c,hc,hn⟩:=Option.bind_eq_some_iff.1 hg
  have:=src_val (a:=a) hk hc hr
  cases c <;> simp [V1.a?] at hn
  subst hn;exact this
theorem mem_l {α:Type} {x:α} {l m:List α} (h:x∈l):x∈l++m:=List.mem_append_left _ h
theorem mem_r {α:Type} {x:α} {l m:List α} (h:x∈m):x∈l++m:=List.mem_append_right _ h
theorem guardK_some {R:Type} {b:Bool} {x:Option R} {r:R} (h:guardK b x=some r):b=true∧x=some r:=by cases b <;> simp_all [guardK]
theorem chk_some {R:Type} {b:Bool} {x:Option R} {r:R} (h:chk b x=some r):b=true∧x=some r:=by cases b <;> simp_all [chk]

def PureOk (P:Program) (φ:Phi) (β:Nat→Nat) (a:Act) (w:World) (o:Oper) (G G':GH) (x:TV):Prop :=
  G' = G∧∃ v,(execOp a.eval o).run P w = .ok (.value v) w∧TRel φ β x v

theorem sound_move {x:Src} {y:TV} (hk:okOp P nr o (.move x)=true) (h:opD C tm G (.move x)=some (y,G')) (hr:∀ n∈(DOp.move x).rd,Rd φ β a tm n):PureOk P φ β a w o G G' y:=by
  simp only [opD,opK] at h
  have key:∀ z,(o.op = .move z∨o.op = .assign z)→okSrc nr z x=true→PureOk P φ β a w o G G' y:=by
    intro z hz hs
    have hrun:(execOp a.eval o).run P w = .ok (.value (a.eval z)) w:=by rcases hz with hz | hz <;> simp [execOp,hz]
    cases x with
    | k v =>
      simp at h;obtain ⟨rfl,rfl⟩:=h
      exact ⟨rfl,_,hrun,src_val (tm:=tm) hs rfl hr⟩
    | t n =>
      simp only at h
      have hz:z = .tmp n:=by unfold okSrc at hs;split at hs <;> simp_all
      subst hz
      have fin:∀ u,tm[n]? = some u→u≠.und→(∀ cs,u≠.box cs)→TRel φ β u (a.eval (.tmp n)):=fun u hu h1 h2=>by
        obtain ⟨v,hv,r⟩:=hr n (by simp [DOp.rd,Src.rd]) u hu h1 h2
        simp only [Act.eval,Array.getD_eq_getD_getElem?,hv,Option.getD_some];exact r
      split at h
      · rename_i v hv;simp at h;obtain ⟨rfl,rfl⟩:=h;exact ⟨rfl,_,hrun,fin _ hv (by simp) (by simp)⟩
      · rename_i v hv;simp at h;obtain ⟨rfl,rfl⟩:=h;exact ⟨rfl,_,hrun,fin _ hv (by simp) (by simp)⟩
      · rename_i id off hv;simp at h;obtain ⟨rfl,rfl⟩:=h;exact ⟨rfl,_,hrun,.inr (fin _ hv (by simp) (by simp))⟩
      · cases h
  simp only [okOp] at hk
  split at hk
  · exact key _ (.inl ‹_›) hk
  · exact key _ (.inr ‹_›) hk
  · cases hk
theorem sound_nilck {x:Src} {y:TV} (hk:okOp P nr o (.nilck x)=true) (h:opD C tm G (.nilck x)=some (y,G')) (hr:∀ n∈(DOp.nilck x).rd,Rd φ β a tm n):PureOk P φ β a w o G G' y:=by
  simp only [opD,opK] at h
  obtain ⟨p,hp,h⟩:=Option.bind_eq_some_iff.1 h
  obtain ⟨h0,h⟩:=guardK_some h
  simp at h;obtain ⟨rfl,rfl⟩:=h
  simp only [okOp] at hk
  split at hk
  · rename_i z hz
    have:=src_ptr (a:=a) hk hp hr
    rcases this with ⟨e,_⟩ | ⟨e,L,hL,hv⟩
    · rw [e] at h0;cases h0
    · exact ⟨rfl,_,by simp [execOp,hz,hv],e,L,hL,rfl⟩
  · cases hk
theorem sound_pick {c x y:Src} {u:TV} (hk:okOp P nr o (.pick c x y)=true) (h:opD C tm G (.pick c x y)=some (u,G')) (hr:∀ n∈(DOp.pick c x y).rd,Rd φ β a tm n):PureOk P φ β a w o G G' u:=by
  simp only [opD,opK] at h
  obtain ⟨b,hb,h⟩:=Option.bind_eq_some_iff.1 h
  simp only [okOp] at hk
  split at hk
  · rename_i c' a' b' ho
    simp only [Bool.and_eq_true] at hk
    have e:=src_bool (a:=a) hk.1.1 hb fun n hn=>hr n (mem_l (mem_l hn))
    cases b with
    | true =>
      obtain ⟨v,hv,h⟩:=Option.bind_eq_some_iff.1 h
      simp at h;obtain ⟨rfl,rfl⟩:=h
      exact ⟨rfl,_,by simp [execOp,ho,e,asBool],src_val hk.1.2 hv fun n hn=>hr n (mem_l (mem_r hn))⟩
    | false =>
      obtain ⟨v,hv,h⟩:=Option.bind_eq_some_iff.1 h
      simp at h;obtain ⟨rfl,rfl⟩:=h
      exact ⟨rfl,_,by simp [execOp,ho,e,asBool],src_val hk.2 hv fun n hn=>hr n (mem_r hn)⟩
  · cases hk
theorem binD_run {b:BinOp} {op:Bin} {k k':IntKind} {x y r:Int} {t:TypeId} (hb:okBin b op=true) (hkk:(op = .shl∨op = .shr)∨k=k') (h:binD op k x y=some r) :
    (binOp b t (.int k x) (.int k' y)).run P w = .ok (.int k r) w:=by
  cases b <;> cases op <;> simp [okBin] at hb <;> simp only [binD] at h <;> (try (simp at hkk)) <;> (try subst hkk) <;> (try split at h) <;> (try cases h) <;>
    (first
      | (simp [binOp,Op.intArith];done)
      | (simp [binOp,Op.intDiv, *];done)
      | (simp [binOp,Op.intBits];done)
      | (rename_i h0;simp [binOp,Op.shift,h0];done))
theorem sound_bin {op:Bin} {k:IntKind} {x y:Src} {u:TV} (hk:okOp P nr o (.bin op k x y)=true) (h:opD C tm G (.bin op k x y)=some (u,G')) (hr:∀ n∈(DOp.bin op k x y).rd,Rd φ β a tm n):PureOk P φ β a w o G G' u:=by
  simp only [opD,opK,iK] at h
  obtain ⟨p,hp,h⟩:=Option.bind_eq_some_iff.1 h
  have hy:∃ k' q r,(((op = .shl∨op = .shr)∧(y.cell tm).bind intAny=some (k',q))∨(k' = k∧¬ (op = .shl∨op = .shr)∧(y.cell tm).bind (Cell.asI k)=some q))∧binD op k p q=some r∧u = .c (.int k r)∧G' = G:=by
    cases op <;> simp only [natK,iK] at h <;> obtain ⟨q,hq,h⟩:=Option.bind_eq_some_iff.1 h <;> obtain ⟨r,hr',h⟩:=Option.bind_eq_some_iff.1 h <;> simp at h <;> obtain ⟨rfl,rfl⟩:=h <;>
      first
        | exact ⟨k,q,r,.inr ⟨rfl,by simp,hq⟩,hr',rfl,rfl⟩
        | exact ⟨q.1,q.2,r,.inl ⟨by simp,hq⟩,hr',rfl,rfl⟩
  obtain ⟨k',q,r,hq,hb,rfl,rfl⟩:=hy
  have ey:∀ z,okSrc nr z y=true→a.eval z = .int k' q:=fun z hz=>by
    rcases hq with ⟨_,hq⟩ | ⟨rfl,_,hq⟩
    · exact src_nat (a:=a) hz hq fun n hn=>hr n (mem_r hn)
    · exact src_int (a:=a) hz hq fun n hn=>hr n (mem_r hn)
  have kk:(op = .shl∨op = .shr)∨k=k':=by rcases hq with ⟨h1,_⟩ | ⟨h1,_⟩;exact .inl h1;exact .inr h1.symm
  simp only [okOp] at hk
  split at hk
  · rename_i b t x' y' t' ho
    simp only [Bool.and_eq_true] at hk
    have ex:=src_int (a:=a) hk.1.2 hp fun n hn=>hr n (mem_l hn)
    refine ⟨rfl,.int k r,?_,rfl⟩
    have hg:(eqGuard b t x' y' (.int k p) (.int k' q)).run P w = .ok () w:=by unfold eqGuard;cases b <;> simp [okBin] at hk <;> rfl
    simp only [execOp,ho,ex,ey _ hk.2,Sem.run_bind,hg,Result.andThen_ok,binD_run hk.1.1 kk hb,Sem.run_pure]
  · rename_i t y' ho
    simp only [Bool.and_eq_true,decide_eq_true_eq] at hk
    obtain ⟨⟨rfl,hx⟩,hs⟩:=hk
    split at hx
    · rename_i k2 n2
      simp only [Bool.and_eq_true,decide_eq_true_eq] at hx
      obtain ⟨rfl,rfl⟩:=hx
      simp [Src.cell,Src.get,V1.c?,Cell.asI] at hp
      subst hp
      have e:=ey _ hs
      rcases hq with ⟨h1,_⟩ | ⟨rfl,_,hq⟩
      · simp at h1
      refine ⟨rfl,.int k' r,?_,rfl⟩
      simp only [binD,Option.some.injEq] at hb
      simp only [execOp,ho,e,Op.unary,Op.intBits,Sem.run_bind,Sem.run_pure,Result.andThen_ok,hb]
    · cases hx
  · cases hk
theorem sound_cmp {op:Cmp} {k:IntKind} {x y:Src} {u:TV} (hk:okOp P nr o (.cmp op k x y)=true) (h:opD C tm G (.cmp op k x y)=some (u,G')) (hr:∀ n∈(DOp.cmp op k x y).rd,Rd φ β a tm n):PureOk P φ β a w o G G' u:=by
  simp only [opD,opK,iK] at h
  obtain ⟨p,hp,h⟩:=Option.bind_eq_some_iff.1 h
  obtain ⟨q,hq,h⟩:=Option.bind_eq_some_iff.1 h
  simp at h;obtain ⟨rfl,rfl⟩:=h
  simp only [okOp] at hk
  split at hk
  · rename_i b t x' y' t' ho
    simp only [Bool.and_eq_true] at hk
    have ex:=src_int (a:=a) hk.1.2 hp fun n hn=>hr n (mem_l hn)
    have ey:=src_int (a:=a) hk.2 hq fun n hn=>hr n (mem_r hn)
    refine ⟨rfl,.bool (cmpD op p q),?_,rfl⟩
    have hg:(eqGuard b t x' y' (.int k p) (.int k q)).run P w = .ok () w:=by unfold eqGuard;cases b <;> simp [okCmp] at hk <;> rfl
    simp only [execOp,ho,ex,ey,Sem.run_bind,hg,Result.andThen_ok]
    have:(binOp b t (.int k p) (.int k q)).run P w = .ok (.bool (cmpD op p q)) w:=by
      cases b <;> cases op <;> simp [okCmp] at hk <;> simp [binOp,Op.intCmp,cmpD] <;> (try rfl)
    simp [this]
  · cases hk
theorem sound_not {x:Src} {u:TV} (hk:okOp P nr o (.not x)=true) (h:opD C tm G (.not x)=some (u,G')) (hr:∀ n∈(DOp.not x).rd,Rd φ β a tm n):PureOk P φ β a w o G G' u:=by
  simp only [opD,opK] at h
  obtain ⟨p,hp,h⟩:=Option.bind_eq_some_iff.1 h
  simp at h;obtain ⟨rfl,rfl⟩:=h
  simp only [okOp] at hk
  split at hk
  · rename_i t y ho
    have ex:=src_bool (a:=a) hk hp hr
    exact ⟨rfl,.bool (!p),by simp [execOp,ho,ex,Op.unary],rfl⟩
  · cases hk
theorem sound_conv {k:IntKind} {x:Src} {u:TV} (hk:okOp P nr o (.conv k x)=true) (h:opD C tm G (.conv k x)=some (u,G')) (hr:∀ n∈(DOp.conv k x).rd,Rd φ β a tm n):PureOk P φ β a w o G G' u:=by
  simp only [opD,opK,natK] at h
  obtain ⟨p,hp,h⟩:=Option.bind_eq_some_iff.1 h
  simp at h;obtain ⟨rfl,rfl⟩:=h
  simp only [okOp] at hk
  split at hk
  · rename_i s t y ho
    simp only [Bool.and_eq_true] at hk
    have ex:=src_nat (a:=a) hk.1.1 hp hr
    refine ⟨rfl,.int k (k.wrap p.2),?_,rfl⟩
    have ht:P.underlying t=some (.int k):=by
      have:=hk.1.2;unfold tInt at this;split at this
      · rename_i k' hk';simp at this;subst this;exact hk'
      · cases this
    obtain ⟨d,hd⟩:=Option.isSome_iff_exists.1 hk.2
    simp only [execOp,ho,ex,convert,Sem.run_bind,run_underlying hd,run_underlying ht,Result.andThen_ok]
    cases d <;> simp [Conv.intToInt]
  · cases hk
theorem sound_beq {neg:Bool} {x y:Src} {u:TV} (hk:okOp P nr o (.beq neg x y)=true) (h:opD C tm G (.beq neg x y)=some (u,G')) (hr:∀ n∈(DOp.beq neg x y).rd,Rd φ β a tm n):PureOk P φ β a w o G G' u:=by
  simp only [opD,opK] at h
  obtain ⟨p,hp,h⟩:=Option.bind_eq_some_iff.1 h
  obtain ⟨q,hq,h⟩:=Option.bind_eq_some_iff.1 h
  simp at h;obtain ⟨rfl,rfl⟩:=h
  simp only [okOp] at hk
  split at hk
  · rename_i b t x' y' t' ho
    simp only [Bool.and_eq_true] at hk
    have ex:=src_bool (a:=a) hk.1.1.2 hp fun n hn=>hr n (mem_l hn)
    have ey:=src_bool (a:=a) hk.1.2 hq fun n hn=>hr n (mem_r hn)
    have ht:P.underlying t=some .bool:=by have:=hk.2;split at this <;> simp_all
    refine ⟨rfl,.bool (Bool.xor neg (p == q)),?_,rfl⟩
    have he:(Op.equal t (.bool p) (.bool q)).run P w = .ok (p == q) w:=by
      unfold Op.equal Op.maxDepth;exact run_equalIn_bool' w 9999 t p q ht
    have hb:=hk.1.1.1
    have hg:(eqGuard b t x' y' (.bool p) (.bool q)).run P w = .ok () w:=by unfold eqGuard;cases b <;> simp [okNeg] at hb <;> rfl
    simp only [execOp,ho,ex,ey,Sem.run_bind,hg,Result.andThen_ok]
    cases b <;> simp [okNeg] at hb
    · subst hb;simp [binOp,he]
    · subst hb;simp [binOp,he]
  · cases hk
end
end Go.Proofs.D
/- More operations that look at slots alone. -/
set_option linter.unusedVariables false
namespace Go.Proofs.D
open Go
section
variable {P:Program} {nr:Nat} {φ:Phi} {β:Nat→Nat} {a:Act} {w:World} {tm:TM} {C:Call} {G G':GH} {o:Oper}

theorem tSize_info {t:TypeId} {n:Nat} (h:tSize P t n=true):∃ i,P.info? t=some i∧i.size=n:=by
  unfold tSize at h;split at h
  · rename_i i hi;exact ⟨i,hi,by simpa [Nat.beq_eq] using h⟩
  · cases h
theorem tSize_run {t:TypeId} {n:Nat} (h:tSize P t n=true) (w:World):(sizeOf t).run P w = .ok n w:=by
  obtain ⟨i,hi,rfl⟩:=tSize_info h
  simp [sizeOf,typeInfo,hi]
theorem tSlice_info {t:TypeId} {es:Nat} (h:tSlice P t es=true):∃ e i,P.underlying t=some (.slice e)∧P.info? e=some i∧i.size=es∧es≠0:=by
  unfold tSlice at h;split at h
  · rename_i e he
    simp only [Bool.and_eq_true] at h
    obtain ⟨i,hi,hs⟩:=tSize_info h.1
    exact ⟨e,i,he,hi,hs,by have:=h.2;intro z;subst z;simp at this⟩
  · cases h
theorem tAgg_run {t:TypeId} {b:Bool} (h:tAgg P t b=true) (w:World):(isAgg t).run P w = .ok b w:=by
  unfold tAgg at h
  split at h
  · rename_i hu;subst h;simp [isAgg,run_underlying hu]
  · rename_i hu;subst h;simp [isAgg,run_underlying hu]
  · rename_i d h1 h2 hu
    have:b=false:=by simpa using h
    subst this
    unfold isAgg;rw [Sem.run_bind,run_underlying hu]
    cases d <;> simp_all
  · cases h
theorem srcs_val:∀ {ys:List Operand} {ss:List Src} {xs:List V1},okSrcs nr ys ss=true→getAll tm ss=some xs→(∀ n∈rdAll ss,Rd φ β a tm n)→R2 (V1Rel φ) xs (ys.map a.eval)
  | [],[],xs,_,hg,_=>by simp [getAll] at hg;subst hg;exact R2.nil
  | y::ys,s::ss,xs,hk,hg,hr=>by
    simp only [okSrcs,Bool.and_eq_true] at hk
    simp only [getAll] at hg
    obtain ⟨v,hv,hg⟩:=Option.bind_eq_some_iff.1 hg
    obtain ⟨vs,hvs,hg⟩:=Option.bind_eq_some_iff.1 hg
    simp at hg;subst hg
    exact R2.cons (src_val hk.1 hv fun n hn=>hr n (mem_l hn)) (srcs_val hk.2 hvs fun n hn=>hr n (mem_r hn))
  | [],_::_,_,h,_,_=>by simp [okSrcs] at h
  | _::_,[],_,h,_,_=>by simp [okSrcs] at h
theorem eval_toList (args:Array Operand):(args.map a.eval).toList=args.toList.map a.eval:=by simp
theorem arr_of_list {α:Type} {arr:Array α} {l:List α} (h:arr.toList=l):arr=l.toArray:=by subst h;simp

theorem sound_len {x:Src} {u:TV} (hk:okOp P nr o (.len x)=true) (h:opD C tm G (.len x)=some (u,G')) (hr:∀ n∈(DOp.len x).rd,Rd φ β a tm n):PureOk P φ β a w o G G' u:=by
  simp only [opD,opK] at h
  obtain ⟨p,hp,h⟩:=Option.bind_eq_some_iff.1 h
  simp at h;obtain ⟨rfl,rfl⟩:=h
  simp only [okOp] at hk
  split at hk
  · rename_i c ho
    simp only [Bool.and_eq_true] at hk
    obtain ⟨⟨h1,h2⟩,h3⟩:=hk
    have hc:c.callee = .builtin .len:=by split at h1 <;> simp_all
    have:∃ y,c.args.toList=[y]∧okSrc nr y x=true:=by
      cases hl:c.args.toList with
      | nil=>simp [hl,okSrcs] at h2
      | cons y ys=>cases ys with
        | nil=>exact ⟨y,rfl,by simpa [hl,okSrcs] using h2⟩
        | cons=>simp [hl,okSrcs] at h2
    obtain ⟨y,hl,hy⟩:=this
    have hargs:=arr_of_list hl
    obtain ⟨es,off,hs⟩:=src_slAny (a:=a) hy hp hr
    split at h3
    · rename_i t ht
      split at h3
      · rename_i e he
        refine ⟨rfl,.int .i64 p.2,?_,rfl⟩
        have hv:∃ b c,a.eval y = .slice b p.2 c:=by
          rcases hs with ⟨_,_,hl,hv⟩ | ⟨_,L,o',cap,_,hv,_⟩
          · exact ⟨_,_,by rw [hv,hl]⟩
          · exact ⟨_,_,hv⟩
        obtain ⟨b,cp,hv⟩:=hv
        have ht':c.argTypes.toList[0]? = some t:=by simpa using ht
        simp [execOp,ho,resolve,hc,hargs,invoke,builtin,Builtin.len_,ht,hv,run_underlying he,goInt]
      · cases h3
    · cases h3
  · cases hk
theorem sl_slice {es id off len:Nat} {v:Value} (h:CRel φ (.sl es id off len) v):∃ b cap,v = .slice b len cap∧len≤cap:=by
  rcases h with ⟨_,_,hl,hv⟩ | ⟨_,L,o',cap,_,hv,hle,_⟩
  · exact ⟨_,0,by rw [hv,hl],by omega⟩
  · exact ⟨_,_,hv,hle⟩
theorem sound_iaddr {x i:Src} {es:Nat} {u:TV} (hk:okOp P nr o (.iaddr x i es)=true) (h:opD C tm G (.iaddr x i es)=some (u,G')) (hr:∀ n∈(DOp.iaddr x i es).rd,Rd φ β a tm n):PureOk P φ β a w o G G' u:=by
  simp only [opD,opK,sK,natK] at h
  obtain ⟨p,hp,h⟩:=Option.bind_eq_some_iff.1 h
  obtain ⟨q,hq,h⟩:=Option.bind_eq_some_iff.1 h
  obtain ⟨hg,h⟩:=guardK_some h
  simp at h;obtain ⟨rfl,rfl⟩:=h
  simp at hg
  simp only [okOp] at hk
  split at hk
  · rename_i t y j ho
    simp only [Bool.and_eq_true] at hk
    have ei:=src_nat (a:=a) hk.1.2 hq fun n hn=>hr n (mem_r hn)
    have ex:=src_sl (a:=a) hk.1.1 hp fun n hn=>hr n (mem_l hn)
    obtain ⟨e,it,hu,hi,hs,h0⟩:=tSlice_info hk.2
    rcases ex with ⟨_,_,hl,_⟩ | ⟨hid,L,o',cap,hL,hv,hle,hc⟩
    · omega
    · rcases hc with ⟨ho',_⟩ | ⟨hc,_⟩
      · refine ⟨rfl,.pointer (some ⟨L.blk,L.sh+(p.2.1+q.2.toNat*es),none⟩),?_,hid,L,hL,rfl⟩
        have hadd:(⟨L.blk,o',none⟩:Addr).add (q.2.toNat*es) = ⟨L.blk,L.sh+(p.2.1+q.2.toNat*es),none⟩:=by
          subst ho';unfold Addr.add;split
          · rename_i z;simp [z]
          · simp [Nat.add_assoc]
        have hz:(sizeOf e).run P w = .ok es w:=by simp [sizeOf,typeInfo,hi,hs]
        simp only [execOp,ho,Instr.indexAt,hv,ei,asIntOf,Sem.run_bind,Sem.run_pure,Result.andThen_ok,run_underlying hu,Bool.and_false,Sem.run_ite,hg.1,hg.2,and_self,if_true,hz,hadd]
      · omega
  · cases hk
theorem sound_faddr {y off:Nat} {dst:Option Nat} {tm':TM} (hk:okOp P nr o (.faddr y off)=true) (h:opLD tm dst (.faddr y off)=some tm') (hr:∀ n∈(DOp.faddr y off).rd,Rd φ β a tm n) :
    ∃ d x v,dst=some d∧tm' = tm.set d x∧(execOp a.eval o).run P w = .ok (.value v) w∧TRel φ β x v∧((∃ b k k',x = .ref b k∧tm[y]? = some (.ref b k'))∨∃ i k,x = .pt i k):=by
  simp only [opLD,opL] at h
  simp only [okOp] at hk
  split at hk
  · rename_i t z f ho
    simp only [Bool.and_eq_true] at hk
    have hz:z = .tmp y:=by have:=hk.1;unfold okTmp at this;split at this <;> simp_all [Nat.beq_eq]
    subst hz
    have h2:=hk.2
    split at h2
    · rename_i fs hu
      split at h2
      · rename_i fd hfd
        simp only [Bool.and_eq_true,Nat.beq_eq] at h2
        obtain ⟨rfl,h4⟩:=h2
        split at h4
        · rename_i it hit
          have hne:it.size≠0:=by intro z;simp [z] at h4
          have run:∀ ad:Addr,a.eval (.tmp y) = .pointer (some ad)→(execOp a.eval o).run P w = .ok (.value (.pointer (some (ad.add fd.offset)))) w:=fun ad had=>by
            simp [execOp,ho,Instr.fieldAt,run_underlying hu,hfd,had,Instr.sureAddr,fieldPlace,sizeOf,typeInfo,hit,hne]
          have val:∀ u,tm[y]? = some u→u≠.und→(∀ cs,u≠.box cs)→TRel φ β u (a.eval (.tmp y)):=fun u hu' h1 h2=>by
            obtain ⟨v,hv,r⟩:=hr y (by simp [DOp.rd]) u hu' h1 h2
            simp only [Act.eval,Array.getD_eq_getD_getElem?,hv,Option.getD_some];exact r
          have add:∀ b k:Nat,(⟨b,k,none⟩:Addr).add fd.offset = ⟨b,k+fd.offset,none⟩:=fun b k=>by
            unfold Addr.add;split
            · rename_i z;simp [z]
            · rfl
          split at h
          · rename_i b k d hm
            simp at h;subst h
            have e:=val _ hm (by simp) (by simp)
            exact ⟨d,_,_,rfl,rfl,run _ e,by rw [add];rfl,.inl ⟨b,_,k,rfl,hm⟩⟩
          · rename_i i k d hm
            simp at h;subst h
            obtain ⟨h0,L,hL,e⟩:=val _ hm (by simp) (by simp)
            exact ⟨d,_,_,rfl,rfl,run _ e,by rw [add];exact ⟨h0,L,hL,by rw [Nat.add_assoc]⟩,.inr ⟨_,_,rfl⟩⟩
          · cases h
        · cases h4
      · cases h2
    · cases h2
  · cases hk
theorem sound_iaddrA {y len es:Nat} {i:Src} {dst:Option Nat} {tm':TM} (hk:okOp P nr o (.iaddrA y i len es)=true) (h:opLD tm dst (.iaddrA y i len es)=some tm') (hr:∀ n∈(DOp.iaddrA y i len es).rd,Rd φ β a tm n) :
    ∃ d x v,dst=some d∧tm' = tm.set d x∧(execOp a.eval o).run P w = .ok (.value v) w∧TRel φ β x v∧((∃ b k k',x = .ref b k∧tm[y]? = some (.ref b k'))∨∃ i k,x = .pt i k):=by
  simp only [opLD,opL,natK] at h
  obtain ⟨q,hq,h⟩:=Option.bind_eq_some_iff.1 h
  obtain ⟨hg,hM⟩:=guardK_some h
  clear h
  simp at hg
  simp only [okOp] at hk
  split at hk
  · rename_i t z j ho
    simp only [Bool.and_eq_true] at hk
    have hz:z = .tmp y:=by have:=hk.1.1;unfold okTmp at this;split at this <;> simp_all [Nat.beq_eq]
    subst hz
    have ei:=src_nat (a:=a) hk.1.2 hq fun n hn=>hr n (by simp [DOp.rd];exact .inr hn)
    have h2:=hk.2
    split at h2
    · rename_i n e hu
      simp only [Bool.and_eq_true,Nat.beq_eq] at h2
      obtain ⟨⟨rfl,hs⟩,h0⟩:=h2
      have hz:=tSize_run hs w
      have run:∀ ad:Addr,a.eval (.tmp y) = .pointer (some ad)→(execOp a.eval o).run P w = .ok (.value (.pointer (some (ad.add (q.2.toNat*es))))) w:=fun ad had=>by
        simp only [execOp,ho,Instr.indexAt,had,ei,asIntOf,Instr.sureAddr,Sem.run_bind,Sem.run_pure,Result.andThen_ok,run_underlying hu,Sem.run_ite,hg.1,hg.2,and_self,if_true,hz]
      have val:∀ u,tm[y]? = some u→u≠.und→(∀ cs,u≠.box cs)→TRel φ β u (a.eval (.tmp y)):=fun u hu' h1 h2=>by
        obtain ⟨v,hv,r⟩:=hr y (by simp [DOp.rd]) u hu' h1 h2
        simp only [Act.eval,Array.getD_eq_getD_getElem?,hv,Option.getD_some];exact r
      have add:∀ b k:Nat,(⟨b,k,none⟩:Addr).add (q.2.toNat*es) = ⟨b,k+q.2.toNat*es,none⟩:=fun b k=>by
        unfold Addr.add;split
        · rename_i z;simp [z]
        · rfl
      revert hM
      generalize hm:tm[y]? = X
      intro hM
      cases X with
      | none=>cases hM
      | some u =>
        cases dst with
        | none=>cases u <;> cases hM
        | some d =>
          cases u with
          | ref b k =>
            simp at hM;subst hM
            have e:=val _ hm (by simp) (by simp)
            exact ⟨d,_,_,rfl,rfl,run _ e,by rw [add];rfl,.inl ⟨b,_,k,rfl,rfl⟩⟩
          | pt i k =>
            simp at hM;subst hM
            obtain ⟨h0,L,hL,e⟩:=val _ hm (by simp) (by simp)
            exact ⟨d,_,_,rfl,rfl,run _ e,by rw [add];exact ⟨h0,L,hL,by rw [Nat.add_assoc]⟩,.inr ⟨_,_,rfl⟩⟩
          | _=>cases hM
    · cases h2
  · cases hk
theorem sound_ext {x i:Nat} {u:TV} (hk:okOp P nr o (.ext x i)=true) (h:opD C tm G (.ext x i)=some (u,G')) (hr:∀ n∈(DOp.ext x i).rd,Rd φ β a tm n):PureOk P φ β a w o G G' u:=by
  simp only [opD,opK] at h
  split at h
  · rename_i vs hm
    obtain ⟨v,hv,h⟩:=Option.bind_eq_some_iff.1 h
    simp at h;obtain ⟨rfl,rfl⟩:=h
    simp only [okOp] at hk
    split at hk
    · rename_i z j ho
      simp only [Bool.and_eq_true,Nat.beq_eq] at hk
      have hz:z = .tmp x:=by have:=hk.1;unfold okTmp at this;split at this <;> simp_all [Nat.beq_eq]
      subst hz
      obtain ⟨_,rfl⟩:=hk
      obtain ⟨y,hy,arr,rfl,r⟩:=hr x (by simp [DOp.rd]) _ hm (by simp) (by simp)
      obtain ⟨z,hz,rz⟩:=r.get i v hv
      have e:a.eval (.tmp x) = .tuple arr:=by simp only [Act.eval,Array.getD_eq_getD_getElem?,hy,Option.getD_some]
      exact ⟨rfl,z,by simp [execOp,ho,e,Instr.extract,show arr[i]? = some z by simpa using hz],rz⟩
    · cases hk
  · cases h
theorem sound_fld {x:Src} {off n:Nat} {agg:Bool} {u:TV} (hk:okOp P nr o (.fld x off n agg)=true) (h:opD C tm G (.fld x off n agg)=some (u,G')) (hr:∀ m∈(DOp.fld x off n agg).rd,Rd φ β a tm m):PureOk P φ β a w o G G' u:=by
  simp only [opD,opK] at h
  obtain ⟨cs,hcs,h⟩:=Option.bind_eq_some_iff.1 h
  simp only [okOp] at hk
  split at hk
  · rename_i t y f ho
    simp only [Bool.and_eq_true] at hk
    obtain ⟨arr,ex,r⟩:=src_agg (a:=a) hk.1 hcs hr
    have h2:=hk.2
    split at h2
    · rename_i fs hu
      split at h2
      · rename_i fd hfd
        simp only [Bool.and_eq_true,Nat.beq_eq] at h2
        obtain ⟨⟨rfl,hs⟩,ha⟩:=h2
        have run:(execOp a.eval o).run P w=((part fd.type arr fd.offset).run P w).andThen fun v w'=>.ok (.value v) w':=by
          simp [execOp,ho,Instr.field,run_underlying hu,hfd,ex,asAgg]
        have hag:=tAgg_run ha w
        have hsz:=tSize_run hs w
        cases agg with
        | true =>
          obtain ⟨hb,h⟩:=chk_some h
          simp at h;obtain ⟨rfl,rfl⟩:=h
          refine ⟨rfl,.agg (arr.extract fd.offset (fd.offset+n)),?_,arr.extract fd.offset (fd.offset+n),rfl,?_⟩
          · rw [run];simp [part,hag,hsz]
          · have:=(r.drop fd.offset).take n
            simpa [Array.toList_extract,List.extract_eq_take_drop] using this
        | false =>
          obtain ⟨c,hc,h⟩:=Option.bind_eq_some_iff.1 h
          simp at h;obtain ⟨rfl,rfl⟩:=h
          obtain ⟨v,hv,rv⟩:=r.get _ _ hc
          refine ⟨rfl,v,?_,rv⟩
          rw [run];simp [part,hag,show arr[fd.offset]? = some v by simpa using hv]
      · cases h2
    · cases h2
  · cases hk
theorem okNeg_cases {b:BinOp} {neg:Bool} (h:okNeg b neg=true):(b = .eql∧neg=false)∨(b = .neq∧neg=true):=by cases b <;> simp_all [okNeg]
theorem isNilP_eval {y:Operand} (h:isNilP y=true):a.eval y = .pointer none:=by unfold isNilP at h;split at h <;> first | rfl | cases h
theorem isNilS_eval {y:Operand} (h:isNilS y=true):a.eval y = .slice none 0 0:=by unfold isNilS at h;split at h <;> first | rfl | cases h
theorem sound_pnil {neg:Bool} {x:Src} {u:TV} (hk:okOp P nr o (.pnil neg x)=true) (h:opD C tm G (.pnil neg x)=some (u,G')) (hr:∀ n∈(DOp.pnil neg x).rd,Rd φ β a tm n):PureOk P φ β a w o G G' u:=by
  simp only [opD,opK] at h
  obtain ⟨p,hp,h⟩:=Option.bind_eq_some_iff.1 h
  simp at h;obtain ⟨rfl,rfl⟩:=h
  simp only [okOp] at hk
  split at hk
  · rename_i b t x' y' t' ho
    simp only [Bool.and_eq_true,Bool.or_eq_true] at hk
    obtain ⟨⟨hn,hside⟩,ht⟩:=hk
    have ht:∃ e,P.underlying t=some (.pointer e):=by split at ht <;> simp_all
    obtain ⟨e,he⟩:=ht
    refine ⟨rfl,.bool (Bool.xor neg (Nat.beq p.1 0)),?_,rfl⟩
    have val:∀ z,okSrc nr z x=true→∃ q,a.eval z = .pointer q∧q.isNone=Nat.beq p.1 0:=fun z hz=>by
      rcases src_ptr (a:=a) hz hp hr with ⟨e0,hv⟩ | ⟨e0,L,_,hv⟩
      · exact ⟨_,hv,by rw [e0];rfl⟩
      · exact ⟨_,hv,by cases hb:Nat.beq p.1 0 with
          | true=>exact absurd (by simpa [Nat.beq_eq] using hb) e0
          | false=>rfl⟩
    have eqr:∀ q r:Option Addr,(q=none∨r=none)→(Op.equal t (.pointer q) (.pointer r)).run P w = .ok (q.isNone&&r.isNone) w:=fun q r hqr=>by
      unfold Op.equal Op.maxDepth
      rw [Op.equalIn]
      cases q <;> cases r <;> simp [run_underlying he] at hqr ⊢
    have main:∃ q r,a.eval x' = .pointer q∧a.eval y' = .pointer r∧(q=none∨r=none)∧(q.isNone&&r.isNone)=Nat.beq p.1 0:=by
      rcases hside with ⟨h1,h2⟩ | ⟨h1,h2⟩
      · obtain ⟨q,hq,hb⟩:=val _ h2;exact ⟨q,none,hq,isNilP_eval h1,.inr rfl,by simp [hb]⟩
      · obtain ⟨q,hq,hb⟩:=val _ h2;exact ⟨none,q,isNilP_eval h1,hq,.inl rfl,by simp [hb]⟩
    obtain ⟨q,r,ex,ey,hqr,hb⟩:=main
    have:=eqr q r hqr
    rcases okNeg_cases hn with ⟨rfl,rfl⟩ | ⟨rfl,rfl⟩ <;> simp [execOp,ho,ex,ey,eqGuard,binOp,this,hb]
  · cases hk
theorem sound_snil {neg:Bool} {x:Src} {u:TV} (hk:okOp P nr o (.snil neg x)=true) (h:opD C tm G (.snil neg x)=some (u,G')) (hr:∀ n∈(DOp.snil neg x).rd,Rd φ β a tm n):PureOk P φ β a w o G G' u:=by
  simp only [opD,opK] at h
  obtain ⟨p,hp,h⟩:=Option.bind_eq_some_iff.1 h
  simp at h;obtain ⟨rfl,rfl⟩:=h
  simp only [okOp] at hk
  split at hk
  · rename_i b t x' y' t' ho
    simp only [Bool.and_eq_true,Bool.or_eq_true] at hk
    obtain ⟨⟨hn,hside⟩,ht⟩:=hk
    have ht:∃ e,P.underlying t=some (.slice e):=by split at ht <;> simp_all
    obtain ⟨e,he⟩:=ht
    refine ⟨rfl,.bool (Bool.xor neg (Nat.beq p.1 0)),?_,rfl⟩
    have val:∀ z,okSrc nr z x=true→∃ q l c,a.eval z = .slice q l c∧q.isNone=Nat.beq p.1 0:=fun z hz=>by
      obtain ⟨es,off,hs⟩:=src_slAny (a:=a) hz hp hr
      rcases hs with ⟨e0,_,_,hv⟩ | ⟨e0,L,o',cap,_,hv,_⟩
      · exact ⟨_,_,_,hv,by rw [e0];rfl⟩
      · exact ⟨_,_,_,hv,by cases hb:Nat.beq p.1 0 with
          | true=>exact absurd (by simpa [Nat.beq_eq] using hb) e0
          | false=>rfl⟩
    have eqr:∀ (q r:Option Addr) (l c l' c':Nat),(q=none∨r=none)→(Op.equal t (.slice q l c) (.slice r l' c')).run P w = .ok (q.isNone&&r.isNone) w:=fun q r l c l' c' hqr=>by
      unfold Op.equal Op.maxDepth
      rw [Op.equalIn]
      cases q <;> cases r <;> simp [run_underlying he] at hqr ⊢
    have main:∃ q r l c l' c',a.eval x' = .slice q l c∧a.eval y' = .slice r l' c'∧(q=none∨r=none)∧(q.isNone&&r.isNone)=Nat.beq p.1 0:=by
      rcases hside with ⟨h1,h2⟩ | ⟨h1,h2⟩
      · obtain ⟨q,l,c,hq,hb⟩:=val _ h2;exact ⟨q,none,_,_,_,_,hq,isNilS_eval h1,.inr rfl,by simp [hb]⟩
      · obtain ⟨q,l,c,hq,hb⟩:=val _ h2;exact ⟨none,q,_,_,_,_,isNilS_eval h1,hq,.inl rfl,by simp [hb]⟩
    obtain ⟨q,r,l,c,l',c',ex,ey,hqr,hb⟩:=main
    have:=eqr q r l c l' c' hqr
    rcases okNeg_cases hn with ⟨rfl,rfl⟩ | ⟨rfl,rfl⟩ <;> simp [execOp,ho,ex,ey,eqGuard,binOp,this,hb]
  · cases hk
theorem max_go (w:World) (x2:Value→Value→Sem Value) (f:Int→Int→Int) (hx:∀ p q,(x2 (.int .i64 p) (.int .i64 q)).run P w = .ok (.int .i64 (f p q)) w) :
    ∀ (xs:List Src) (ys:List Operand) (p:Int),okSrcs nr ys xs=true→(∀ n∈rdAll xs,Rd φ β a tm n)→∀ u G',opK.go tm G (fun v G=>some (v,G)) xs p f=some (u,G') →
      ∃ r,u = .c (.int .i64 r)∧G' = G∧((ys.map a.eval).foldlM x2 (.int .i64 p)).run P w = .ok (.int .i64 r) w
  | [],[],p,_,_,u,G',h=>by simp [opK.go] at h;obtain ⟨rfl,rfl⟩:=h;exact ⟨p,rfl,rfl,by simp⟩
  | x::xs,y::ys,p,hk,hr,u,G',h=>by
    simp only [okSrcs,Bool.and_eq_true] at hk
    simp only [opK.go,iK] at h
    obtain ⟨q,hq,h⟩:=Option.bind_eq_some_iff.1 h
    have e:=src_int (a:=a) hk.1 hq fun n hn=>hr n (mem_l hn)
    obtain ⟨r,h1,h2,h3⟩:=max_go w x2 f hx xs ys (f p q) hk.2 (fun n hn=>hr n (mem_r hn)) u G' h
    refine ⟨r,h1,h2,?_⟩
    simp only [List.map_cons,e,List.foldlM_cons,Sem.run_bind,hx,Result.andThen_ok];exact h3
  | [],_::_,_,h,_,_,_,_=>by simp [okSrcs] at h
  | _::_,[],_,h,_,_,_,_=>by simp [okSrcs] at h
theorem sound_mx {x:Src} {xs:List Src} {u:TV} (hk:okOp P nr o (.mx x xs)=true) (h:opD C tm G (.mx x xs)=some (u,G')) (hr:∀ n∈(DOp.mx x xs).rd,Rd φ β a tm n):PureOk P φ β a w o G G' u:=by
  simp only [opD,opK,iK] at h
  obtain ⟨p,hp,h⟩:=Option.bind_eq_some_iff.1 h
  simp only [okOp] at hk
  split at hk
  · rename_i c ho
    simp only [Bool.and_eq_true] at hk
    have hc:c.callee = .builtin .max:=by have:=hk.1;split at this <;> simp_all
    cases hl:c.args.toList with
    | nil=>rw [hl] at hk;simp [okSrcs] at hk
    | cons y ys =>
      rw [hl] at hk;simp only [okSrcs,Bool.and_eq_true] at hk
      have e:=src_int (a:=a) hk.2.1 hp fun n hn=>hr n (mem_l hn)
      obtain ⟨r,rfl,rfl,hrun⟩:=max_go (a:=a) (P:=P) w Builtin.max2 mx2 (fun p q=>by simp [Builtin.max2,mx2]) xs ys p hk.2.2 (fun n hn=>hr n (mem_r hn)) u G' h
      refine ⟨rfl,.int .i64 r,?_,rfl⟩
      simp [execOp,ho,resolve,hc,invoke,builtin,Builtin.max_,hl,e,hrun]
  · cases hk
theorem sound_mn {x:Src} {xs:List Src} {u:TV} (hk:okOp P nr o (.mn x xs)=true) (h:opD C tm G (.mn x xs)=some (u,G')) (hr:∀ n∈(DOp.mn x xs).rd,Rd φ β a tm n):PureOk P φ β a w o G G' u:=by
  simp only [opD,opK,iK] at h
  obtain ⟨p,hp,h⟩:=Option.bind_eq_some_iff.1 h
  simp only [okOp] at hk
  split at hk
  · rename_i c ho
    simp only [Bool.and_eq_true] at hk
    have hc:c.callee = .builtin .min:=by have:=hk.1;split at this <;> simp_all
    cases hl:c.args.toList with
    | nil=>rw [hl] at hk;simp [okSrcs] at hk
    | cons y ys =>
      rw [hl] at hk;simp only [okSrcs,Bool.and_eq_true] at hk
      have e:=src_int (a:=a) hk.2.1 hp fun n hn=>hr n (mem_l hn)
      obtain ⟨r,rfl,rfl,hrun⟩:=max_go (a:=a) (P:=P) w Builtin.min2 mn2 (fun p q=>by simp [Builtin.min2,mn2]) xs ys p hk.2.2 (fun n hn=>hr n (mem_r hn)) u G' h
      refine ⟨rfl,.int .i64 r,?_,rfl⟩
      simp [execOp,ho,resolve,hc,invoke,builtin,Builtin.min_,hl,e,hrun]
  · cases hk
theorem opt_int {y:Option Operand} {s:Option Src} (hk:okOpt nr y s=true) (hr:∀ n∈optRd s,Rd φ β a tm n):match s with
    | none=>y=none
    | some s=>∀ p,(s.cell tm).bind intAny=some p→∃ z,y=some z∧a.eval z = .int p.1 p.2:=by
  cases s with
  | none=>cases y with
    | none=>rfl
    | some=>simp [okOpt] at hk
  | some s=>cases y with
    | none=>simp [okOpt] at hk
    | some z=>exact fun p hp=>⟨z,rfl,src_nat hk hp hr⟩
theorem sound_slice {x:Src} {lo hi:Option Src} {es:Nat} {u:TV} (hk:okOp P nr o (.slice x lo hi es)=true) (h:opD C tm G (.slice x lo hi es)=some (u,G')) (hr:∀ n∈(DOp.slice x lo hi es).rd,Rd φ β a tm n):PureOk P φ β a w o G G' u:=by
  simp only [opD,opK,sK] at h
  obtain ⟨p,hp,h⟩:=Option.bind_eq_some_iff.1 h
  simp only [okOp] at hk
  split at hk
  · rename_i t y l hh ho
    simp only [Bool.and_eq_true] at hk
    obtain ⟨⟨⟨hx,hl⟩,hhi⟩,hs⟩:=hk
    have ex:=src_sl (a:=a) hx hp fun n hn=>hr n (mem_l (mem_l hn))
    obtain ⟨e,it,hu,hi',hse,h0⟩:=tSlice_info hs
    have el:=opt_int (a:=a) hl fun n hn=>hr n (mem_l (mem_r hn))
    have eh:=opt_int (a:=a) hhi fun n hn=>hr n (mem_r hn)
    have main:∃ (lv hv:Int),(0≤lv∧lv≤hv∧hv≤p.2.2)∧u = .c (.sl es p.1 (p.2.1+lv.toNat*es) (hv.toNat-lv.toNat))∧G' = G ∧
        ∀ (b:Option Addr) (cap:Nat),p.2.2≤cap→(Instr.sliceBounds true p.2.2 cap (l.map a.eval) (hh.map a.eval) none).run P w = .ok (lv.toNat,hv.toNat,cap) w:=by
      have bd:∀ (k:IntKind) (q:Int) (z:Nat) (code:BoundsCode),0≤q→q≤z→(Instr.sliceBound (.int k q) z code).run P w = .ok q.toNat w:=fun k q z code h1 h2=>by
        simp [Instr.sliceBound,asIntOf,h1,h2]
      cases lo with
      | none =>
        cases hi with
        | none =>
          obtain ⟨hg,h⟩:=guardK_some h
          simp at h hg;obtain ⟨rfl,rfl⟩:=h
          refine ⟨0,p.2.2,by omega,by simp,rfl,fun b cap hc=>?_⟩
          simp at el eh;subst el;subst eh
          simp [Instr.sliceBounds]
        | some hi =>
          simp only [natK] at h
          obtain ⟨q,hq,h⟩:=Option.bind_eq_some_iff.1 h
          obtain ⟨hg,h⟩:=guardK_some h
          simp at h hg;obtain ⟨rfl,rfl⟩:=h
          obtain ⟨z,rfl,ez⟩:=eh q hq
          refine ⟨0,q.2,by omega,by simp,rfl,fun b cap hc=>?_⟩
          simp at el;subst el
          simp [Instr.sliceBounds,ez,bd _ q.2 cap .sliceAcap hg.1 (by omega)]
      | some lo =>
        cases hi with
        | none =>
          simp only [natK] at h
          obtain ⟨q,hq,h⟩:=Option.bind_eq_some_iff.1 h
          obtain ⟨hg,h⟩:=guardK_some h
          simp at h hg;obtain ⟨rfl,rfl⟩:=h
          obtain ⟨z,rfl,ez⟩:=el q hq
          refine ⟨q.2,p.2.2,by omega,by simp,rfl,fun b cap hc=>?_⟩
          simp at eh;subst eh
          simp [Instr.sliceBounds,ez,bd _ q.2 p.2.2 .sliceB hg.1 (by omega)]
        | some hi =>
          simp only [natK] at h
          obtain ⟨q,hq,h⟩:=Option.bind_eq_some_iff.1 h
          obtain ⟨q',hq',h⟩:=Option.bind_eq_some_iff.1 h
          obtain ⟨hg,h⟩:=guardK_some h
          simp at h hg;obtain ⟨rfl,rfl⟩:=h
          obtain ⟨z,rfl,ez⟩:=el q hq
          obtain ⟨z',rfl,ez'⟩:=eh q' hq'
          refine ⟨q.2,q'.2,by omega,by simp,rfl,fun b cap hc=>?_⟩
          simp [Instr.sliceBounds,ez,ez',bd _ q'.2 cap .sliceAcap (by omega) (by omega),bd _ q.2 q'.2.toNat .sliceB hg.1 (by omega)]
    obtain ⟨lv,hv,hb,rfl,rfl,hrun⟩:=main
    have hz:(sizeOf e).run P w = .ok es w:=by simp [sizeOf,typeInfo,hi',hse]
    have add:∀ b k m:Nat,(⟨b,k,none⟩:Addr).add m = ⟨b,k+m,none⟩:=fun b k m=>by
      unfold Addr.add;split
      · rename_i z;simp [z]
      · rfl
    rcases ex with ⟨h1,h2,h3,hv'⟩ | ⟨hid,L,o',cap,hL,hv',hle,hc⟩
    · have hr0:=hrun none 0 (by omega)
      rw [h3] at hr0
      have e1:lv.toNat=0:=by omega
      have e2:hv.toNat=0:=by omega
      rw [e1,e2] at hr0
      refine ⟨rfl,.slice none 0 0,?_,.inl ⟨h1,by simp [h2,e1],by omega,rfl⟩⟩
      simp [execOp,ho,Instr.sliceAt,run_underlying hu,Instr.slice,hv',hr0,hz]
    · have hr0:=hrun (some ⟨L.blk,o',none⟩) cap hle
      refine ⟨rfl,.slice (if cap=lv.toNat then some ⟨L.blk,o',none⟩ else some (Addr.add ⟨L.blk,o',none⟩ (lv.toNat*es))) (hv.toNat-lv.toNat) (cap-lv.toNat),?_,?_⟩
      · simp [execOp,ho,Instr.sliceAt,run_underlying hu,Instr.slice,hv',hr0,hz]
      · split
        · rename_i ec
          refine .inr ⟨hid,L,o',_,hL,rfl,by omega,.inr ⟨by omega,?_⟩⟩
          rcases hc with ⟨ho',hlim⟩ | ⟨hc0,hlim⟩
          · rw [← ec];omega
          · rw [← ec,hc0];omega
        · rename_i ec
          rw [add]
          refine .inr ⟨hid,L,o' + lv.toNat*es,_,hL,rfl,by omega,?_⟩
          rcases hc with ⟨ho',hlim⟩ | ⟨hc0,hlim⟩
          · refine .inl ⟨by omega,?_⟩
            have:cap=lv.toNat+(cap-lv.toNat):=by omega
            rw [this,Nat.add_mul] at hlim
            omega
          · have e1:lv.toNat=0:=by omega
            refine .inr ⟨by omega,by rw [e1];omega⟩
  · cases hk
theorem fill_rel (place:Nat→Option (Nat×Nat)):∀ (qs:List (Nat×Nat×Src)) (ps:List (Nat×Operand)) (zero cs:List Cell) (arr:Array Value),okParts nr place ps qs=true→fillD tm zero qs=some cs→R2 (CRel φ) zero arr.toList →
    (∀ n∈rdAll (qs.map (·.2.2)),Rd φ β a tm n)→∃ out,Instr.fill place arr (ps.map fun (i,x)=>(i,a.eval x))=some out∧R2 (CRel φ) cs out.toList∧out.size=arr.size
  | [],[],zero,cs,arr,_,h,r,_=>by simp [fillD] at h;subst h;exact ⟨arr,rfl,r,rfl⟩
  | (off,n,s)::qs,(i,y)::ps,zero,cs,arr,hk,h,r,hr=>by
    simp only [okParts,Bool.and_eq_true] at hk
    obtain ⟨⟨hp,hs⟩,hk⟩:=hk
    simp only [fillD] at h
    obtain ⟨v,hv,h⟩:=Option.bind_eq_some_iff.1 h
    split at h
    · rename_i hb
      simp only [Bool.and_eq_true,Nat.beq_eq,Nat.ble_eq] at hb
      have hpl:place i=some (off,n):=by
        split at hp
        · rename_i a' b' he;simp only [Bool.and_eq_true,Nat.beq_eq] at hp;rw [he,hp.1,hp.2]
        · cases hp
      have rv:=(src_val (a:=a) (φ:=φ) hs hv fun m hm=>hr m (mem_l hm)).cells
      have l1:=rv.len
      have l0:=r.len
      simp only [Array.length_toList] at l1 l0
      have ef:((a.eval y).cells.zipIdx.foldl (fun cs (c,j)=>cs.setIfInBounds (off+j) c) arr).toList=arr.toList.take off++(a.eval y).cells.toList++arr.toList.drop (off+(a.eval y).cells.toList.length):=by
        have gen:∀ (l:List Value) (k:Nat) (A:Array Value),off+k+l.length≤A.size→((l.zipIdx k).foldl (fun (cs:Array Value) (x:Value×Nat)=>cs.setIfInBounds (off+x.2) x.1) A).toList=A.toList.take (off+k)++l++A.toList.drop (off+k+l.length):=by
          intro l
          induction l with
          | nil=>intro k A _;simp
          | cons x l ih =>
            intro k A hA
            simp at hA
            simp only [List.zipIdx_cons,List.foldl_cons]
            rw [ih (k+1) (A.setIfInBounds (off+k) x) (by simp;omega)]
            apply List.ext_getElem?
            intro j
            simp only [Array.toList_setIfInBounds,List.length_cons]
            by_cases c1:j<off+k
            · rw [List.append_assoc,List.append_assoc,List.getElem?_append_left (by simp;omega),List.getElem?_append_left (by simp;omega),List.getElem?_take,List.getElem?_take]
              simp only [show j<off+(k+1) by omega,c1,if_true]
              rw [List.getElem?_set_ne (by omega)]
            · by_cases c2:j=off+k
              · subst c2
                rw [List.append_assoc,List.append_assoc,List.getElem?_append_left (by simp;omega),List.getElem?_append_right (by simp;omega),List.getElem?_take]
                simp only [show off+k<off+(k+1) by omega,if_true]
                rw [List.getElem?_set_self (by simp;omega)]
                simp [show min (off+k) A.size=off+k by omega]
              · by_cases c3:j<off+k+1+l.length
                · rw [List.append_assoc,List.append_assoc,List.getElem?_append_right (by simp;omega),List.getElem?_append_left (by simp;omega),List.getElem?_append_right (by simp;omega),List.getElem?_append_left (by simp;omega)]
                  simp only [List.length_take,List.length_set,Array.length_toList]
                  rw [show j-min (off+k) A.size=(j-min (off+(k+1)) A.size)+1 by omega]
                  simp
                · rw [List.append_assoc,List.append_assoc,List.getElem?_append_right (by simp;omega),List.getElem?_append_right (by simp;omega),List.getElem?_append_right (by simp;omega),List.getElem?_append_right (by simp;omega),List.getElem?_drop,List.getElem?_drop]
                  simp only [List.length_take,List.length_set,Array.length_toList,List.length_cons]
                  rw [List.getElem?_set_ne (by omega)]
                  congr 1;omega
        have:=gen (a.eval y).cells.toList 0 arr (by simp;omega)
        rw [← Array.foldl_toList]
        simpa [Array.toList_zipIdx] using this
      have r2:R2 (CRel φ) (splice zero off v.cells) ((a.eval y).cells.zipIdx.foldl (fun cs (c,j)=>cs.setIfInBounds (off+j) c) arr).toList:=by
        rw [ef]
        have:=((r.take off).append rv).append (r.drop (off+v.cells.length))
        rw [rv.len] at this
        simpa [splice,rv.len] using this
      have hsz:((a.eval y).cells.zipIdx.foldl (fun cs (c,j)=>cs.setIfInBounds (off+j) c) arr).size=arr.size:=by
        rw [← Array.length_toList,ef]
        simp only [Array.length_toList,List.length_append,List.length_take,List.length_drop]
        omega
      obtain ⟨out,h1,h2,h3⟩:=fill_rel place qs ps _ cs _ hk h r2 fun m hm=>hr m (mem_r hm)
      refine ⟨out,?_,h2,by rw [h3,hsz]⟩
      simp only [List.map_cons,Instr.fill,hpl]
      rw [if_neg (by simp;omega)]
      exact h1
    · cases h
  | [],_::_,_,_,_,h,_,_,_=>by simp [okParts] at h
  | _::_,[],_,_,_,h,_,_,_=>by simp [okParts] at h
theorem tZero_info {t:TypeId} {cs:List Cell} (h:tZero P t cs=true):∃ i z,P.info? t=some i∧i.zero=some z∧i.size=cs.length∧okCells z.cells.toList cs=true:=by
  unfold tZero at h;split at h
  · rename_i i hi
    split at h
    · rename_i z hz
      simp only [Bool.and_eq_true,Nat.beq_eq] at h
      exact ⟨i,z,hi,hz,h.2,h.1⟩
    · cases h
  · cases h
theorem sound_build {zero:List Cell} {parts:List (Nat×Nat×Src)} {u:TV} (hk:okOp P nr o (.build zero parts)=true) (h:opD C tm G (.build zero parts)=some (u,G')) (hr:∀ n∈(DOp.build zero parts).rd,Rd φ β a tm n):PureOk P φ β a w o G G' u:=by
  simp only [opD,opK] at h
  obtain ⟨cs,hcs,h⟩:=Option.bind_eq_some_iff.1 h
  simp at h;obtain ⟨rfl,rfl⟩:=h
  simp only [okOp] at hk
  split at hk
  · rename_i t ps ho
    simp only [Bool.and_eq_true] at hk
    obtain ⟨i,z,hi,hz,hsz,hok⟩:=tZero_info hk.1
    have h2:=hk.2
    split at h2
    · rename_i fs hu
      split at h2
      · rename_i places hp
        obtain ⟨out,h3,h4,h5⟩:=fill_rel (a:=a) (φ:=φ) (places[·]?) parts ps.toList zero cs z.cells h2 hcs (okCells_rel hok) hr
        have hb:P.built t (ps.toList.map fun (i,x)=>(i,a.eval x))=some out:=by
          unfold Program.built
          simp only [hi,hu,hz]
          unfold placesOf at hp
          simp only [hp]
          simpa using h3
        refine ⟨rfl,.agg out,?_,out,rfl,h4⟩
        have hrun:=run_build (P:=P) w t (ps.map fun (i,x)=>(i,a.eval x)) out (by simpa using hb)
        simp [execOp,ho,hrun]
      · cases h2
    · cases h2
  · cases hk
end
end Go.Proofs.D
/- Operations that read memory,and those that make it. -/
set_option linter.unusedVariables false
namespace Go.Proofs.D
open Go
section
variable {P:Program} {nr base:Nat} {φ:Phi} {β:Nat→Nat} {a:Act} {w:World} {tm:TM} {C:Call} {G G':GH} {o:Oper}

theorem addr_add (b k m:Nat):(⟨b,k,none⟩:Addr).add m = ⟨b,k+m,none⟩:=by
  unfold Addr.add;split
  · rename_i z;simp [z]
  · rfl
theorem okTmp_eq {y:Operand} {n:Nat} (h:okTmp nr y n=true):y = .tmp n:=by unfold okTmp at h;split at h <;> simp_all [Nat.beq_eq]
theorem rd_eval {n:Nat} {x:TV} (hr:Rd φ β a tm n) (hm:tm[n]? = some x) (h1:x≠.und) (h2:∀ cs,x≠.box cs):TRel φ β x (a.eval (.tmp n)):=by
  obtain ⟨v,hv,r⟩:=hr x hm h1 h2
  simp only [Act.eval,Array.getD_eq_getD_getElem?,hv,Option.getD_some];exact r
theorem asI_some {k:IntKind} {c:Cell} {n:Int} (h:c.asI k=some n):c = .int k n:=by
  cases c <;> simp [Cell.asI] at h
  obtain ⟨rfl,rfl⟩:=h;rfl
theorem asB_some {c:Cell} {n:Bool} (h:c.asB=some n):c = .bool n:=by cases c <;> simp [Cell.asB] at h;subst h;rfl
theorem asP_some {c:Cell} {p:Nat×Nat} (h:c.asP=some p):c = .ptr p.1 p.2:=by cases c <;> simp [Cell.asP] at h;subst h;rfl
theorem asS_some {es:Nat} {c:Cell} {p:Nat×Nat×Nat} (h:c.asS es=some p):c = .sl es p.1 p.2.1 p.2.2:=by
  cases c with
  | sl e id off len =>
    simp only [Cell.asS] at h
    split at h
    · rename_i he;rw [Nat.beq_eq] at he;subst he;simp at h;subst h;rfl
    · cases h
  | _=>simp [Cell.asS] at h
theorem asM_some {c:Cell} {n:Nat} (h:c.asM=some n):c = .map n:=by cases c <;> simp [Cell.asM] at h;subst h;rfl
theorem asT_some {c:Cell} {n:List UInt8} (h:c.asT=some n):c = .str n:=by cases c <;> simp [Cell.asT] at h;subst h;rfl
theorem asF_some {c:Cell} {n:Nat} (h:c.asF=some n):c = .fn n:=by cases c <;> simp [Cell.asF] at h;subst h;rfl
theorem shK_some {R:Type} {s:Sh} {x:Option Cell} {K:Cell→Option R} {r:R} (h:shK s x K=some r):∃ c,x=some c∧K c=some r:=by
  cases s <;> simp only [shK] at h <;> obtain ⟨p,hp,h'⟩:=Option.bind_eq_some_iff.1 h <;> obtain ⟨c,hc,hq⟩:=Option.bind_eq_some_iff.1 hp
  · exact ⟨_,hc,by rw [asI_some hq];exact h'⟩
  · exact ⟨_,hc,by rw [asB_some hq];exact h'⟩
  · exact ⟨_,hc,by rw [asP_some hq];exact h'⟩
  · exact ⟨_,hc,by rw [asS_some hq];exact h'⟩
  · exact ⟨_,hc,by rw [asM_some hq];exact h'⟩
  · exact ⟨_,hc,by rw [asF_some hq];exact h'⟩
  · exact ⟨_,hc,by rw [asT_some hq];exact h'⟩
theorem shsK_some {R:Type} (at_:Nat→Option Cell):∀ (ss:List Sh) (i:Nat) (K:List Cell→Option R) (r:R),shsK at_ K ss i=some r→∃ cs,cs.length=ss.length∧(∀ j c,cs[j]? = some c→at_ (i+j)=some c)∧K cs=some r
  | [],i,K,r,h=>⟨[],rfl,fun j c hc=>by simp at hc,h⟩
  | s::ss,i,K,r,h=>by
    simp only [shsK] at h
    obtain ⟨c,hc,h⟩:=shK_some h
    obtain ⟨cs,hl,hat,h⟩:=shsK_some at_ ss (i+1) _ r h
    refine ⟨c::cs,by simp [hl],fun j d hd=>?_,h⟩
    cases j with
    | zero=>simp at hd;subst hd;exact hc
    | succ j=>have:=hat j d (by simpa using hd);rw [← this];congr 1;omega
theorem vsK_some {R:Type} {s:VS} {x:Option V1} {K:V1→Option R} {r:R} (h:vsK s x K=some r):∃ v,x=some v∧K v=some r:=by
  cases s with
  | c s =>
    simp only [vsK] at h
    obtain ⟨c,hc,h⟩:=shK_some h
    obtain ⟨v,hv,hc⟩:=Option.bind_eq_some_iff.1 hc
    cases v with
    | c z=>simp [V1.c?] at hc;subst hc;exact ⟨_,hv,h⟩
    | agg=>simp [V1.c?] at hc
  | agg ss =>
    simp only [vsK] at h
    obtain ⟨cs,hc,h⟩:=Option.bind_eq_some_iff.1 h
    obtain ⟨v,hv,hc⟩:=Option.bind_eq_some_iff.1 hc
    split at h
    · rename_i hl
      obtain ⟨ds,hd,hat,hK⟩:=shsK_some _ _ _ _ _ h
      clear h
      have:ds=cs:=by
        apply List.ext_getElem?
        intro i
        by_cases hi:i<ds.length
        · have:=hat i ds[i] (List.getElem?_eq_getElem hi)
          simp only [Nat.zero_add] at this
          rw [this,List.getElem?_eq_getElem hi]
        · rw [List.getElem?_eq_none (by omega),List.getElem?_eq_none (by omega)]
      subst this
      cases v with
      | c z=>simp [V1.a?] at hc
      | agg z=>simp [V1.a?] at hc;subst hc;exact ⟨_,hv,hK⟩
    · cases h
theorem resK_some {R:Type} (at_:Nat→Option V1):∀ (ss:List VS) (i:Nat) (K:List V1→Option R) (r:R),resK at_ K ss i=some r→∃ vs,vs.length=ss.length∧(∀ j c,vs[j]? = some c→at_ (i+j)=some c)∧K vs=some r
  | [],i,K,r,h=>⟨[],rfl,fun j c hc=>by simp at hc,h⟩
  | s::ss,i,K,r,h=>by
    simp only [resK] at h
    obtain ⟨c,hc,h⟩:=vsK_some h
    obtain ⟨cs,hl,hat,h⟩:=resK_some at_ ss (i+1) _ r h
    refine ⟨c::cs,by simp [hl],fun j d hd=>?_,h⟩
    cases j with
    | zero=>simp at hd;subst hd;exact hc
    | succ j=>have:=hat j d (by simpa using hd);rw [← this];congr 1;omega
theorem ld_cell {id off:Nat} {c:Cell} {L:Loc} (H:Look base φ G w) (hl:G.ld id off=some c) (hL:φ id=some L):∃ v,w.cell? ⟨L.blk,L.sh+off,none⟩ = some v∧CRel φ c v:=by
  unfold GH.ld GH.row at hl
  obtain ⟨cs,hcs,hc⟩:=Option.bind_eq_some_iff.1 hl
  split at hcs
  · rename_i cs' fz hg
    simp at hcs;subst hcs
    obtain ⟨c',e,r,hh,_,_,hcell,_⟩:=H _ _ _ hg hL
    obtain ⟨v,hv,rv⟩:=hcell off c hc
    exact ⟨v,by simp [World.cell?,hh,hv],rv⟩
  · rename_i cs' hg
    simp at hcs;subst hcs
    obtain ⟨c',e,r,hh,_,_,hcell,_⟩:=H _ _ _ hg hL
    obtain ⟨v,hv,rv⟩:=hcell off c hc
    exact ⟨v,by simp [World.cell?,hh,hv],rv⟩
  · cases hcs
theorem sound_ldG {y:Nat} {s:VS} {u:TV} (hk:okOp P nr o (.ldG y s)=true) (h:opD C tm G (.ldG y s)=some (u,G')) (H:Look base φ G w) (hr:∀ n∈(DOp.ldG y s).rd,Rd φ β a tm n):PureOk P φ β a w o G G' u:=by
  simp only [opD,opK] at h
  simp only [okOp] at hk
  split at hk
  · rename_i t z ho
    simp only [Bool.and_eq_true] at hk
    have hz:=okTmp_eq hk.1;subst hz
    split at h
    · rename_i id off hm
      obtain ⟨h0,L,hL,e⟩:=rd_eval (hr y (by simp [DOp.rd])) hm (by simp) (by simp)
      cases s with
      | c s =>
        obtain ⟨c,hc,h⟩:=shK_some h
        simp at h;obtain ⟨rfl,rfl⟩:=h
        obtain ⟨v,hv,rv⟩:=ld_cell H hc hL
        refine ⟨rfl,v,?_,rv⟩
        have:=tAgg_run hk.2 w
        simp [execOp,ho,Instr.loadAt,Instr.sureAddr,e,loadVar,this,hv]
      | agg ss =>
        obtain ⟨cs,hl,hat,h⟩:=shsK_some _ _ _ _ _ h
        simp at h;obtain ⟨rfl,rfl⟩:=h
        have h2:=hk.2
        simp only [tVS,Bool.and_eq_true] at h2
        have hcell:∀ i x,cs[i]? = some x→∃ v,w.cell? ⟨L.blk,L.sh+(off+i),none⟩ = some v∧CRel φ x v:=fun i x hx=>ld_cell H (by simpa using hat i x hx) hL
        have:∃ vs:List Value,R2 (CRel φ) cs vs∧∀ j v,vs[j]? = some v→w.cell? ((⟨L.blk,L.sh+off,none⟩:Addr).add j)=some v:=by
          clear hat
          suffices gen:∀ (cs:List Cell) (k:Nat),(∀ i x,cs[i]? = some x→∃ v,w.cell? ⟨L.blk,L.sh+(off+(k+i)),none⟩ = some v∧CRel φ x v)→∃ vs:List Value,R2 (CRel φ) cs vs∧∀ j v,vs[j]? = some v→w.cell? ((⟨L.blk,L.sh+off,none⟩:Addr).add (k+j))=some v by
            obtain ⟨vs,r,g⟩:=gen cs 0 (by simpa using hcell)
            exact ⟨vs,r,by simpa using g⟩
          intro cs
          induction cs with
          | nil=>intro k _;exact ⟨[],R2.nil,fun j v hv=>by simp at hv⟩
          | cons c cs ih =>
            intro k hc
            obtain ⟨v,hv,rv⟩:=hc 0 c (by simp)
            obtain ⟨vs,r,g⟩:=ih (k+1) fun i x hx=>by obtain ⟨v,hv,rv⟩:=hc (i+1) x (by simpa using hx);exact ⟨v,by rw [← hv];congr 2;omega,rv⟩
            refine ⟨v::vs,R2.cons rv r,fun j u hu=>?_⟩
            cases j with
            | zero=>simp at hu;subst hu;rw [addr_add,← hv];congr 2;omega
            | succ j=>rw [show k+(j+1)=k+1+j by omega];exact g j u (by simpa using hu)
        obtain ⟨vs,r,g⟩:=this
        have hld:=run_loadCells_list (P:=P) w ⟨L.blk,L.sh+off,none⟩ vs g
        rw [← r.len,hl] at hld
        refine ⟨rfl,.agg vs.toArray,?_,vs.toArray,rfl,by simpa using r⟩
        simp [execOp,ho,Instr.loadAt,Instr.sureAddr,e,loadVar,tAgg_run h2.1 w,tSize_run h2.2 w,hld]
    · cases h
  · cases hk
def BoxR (φ:Phi) (w:World) (b:Nat) (cs:List Cell):Prop:=∃ c e,w.heap[b]? = some (.cells c e (0,0))∧R2 (CRel φ) cs c.toList
theorem sound_ldL {y b:Nat} {s:VS} {dst:Option Nat} {tm':TM} (hk:okOp P nr o (.ldL y b s)=true) (h:opLD tm dst (.ldL y b s)=some tm') (hr:Rd φ β a tm y)
    (hb:∀ cs,tm[b]? = some (.box cs)→BoxR φ w (β b) cs):∃ d x v,dst=some d∧tm' = tm.set d (.v x)∧(execOp a.eval o).run P w = .ok (.value v) w∧V1Rel φ x v:=by
  simp only [opLD,opL] at h
  simp only [okOp] at hk
  split at hk
  · rename_i t z ho
    simp only [Bool.and_eq_true] at hk
    have hz:=okTmp_eq hk.1;subst hz
    split at h
    · rename_i b' off cs d hm hmb
      obtain ⟨hbb,hM⟩:=chk_some h
      clear h
      simp only [Nat.beq_eq] at hbb;subst hbb
      have e:=rd_eval hr hm (by simp) (by simp)
      obtain ⟨c,el,hh,rc⟩:=hb cs hmb
      cases s with
      | c s =>
        obtain ⟨x,hx,hM⟩:=Option.bind_eq_some_iff.1 hM
        simp at hM;subst hM
        obtain ⟨v,hv,rv⟩:=rc.get off x hx
        refine ⟨d,.c x,v,rfl,rfl,?_,rv⟩
        have hcell:w.cell? ⟨β b',off,none⟩ = some v:=by simp [World.cell?,hh];simpa using hv
        have:=tAgg_run hk.2 w
        simp only [TRel] at e
        simp [execOp,ho,Instr.loadAt,Instr.sureAddr,e,loadVar,this,hcell]
      | agg ss =>
        obtain ⟨hle,hM⟩:=chk_some hM
        simp only [Nat.ble_eq] at hle
        simp at hM;subst hM
        have h2:=hk.2
        simp only [tVS,Bool.and_eq_true] at h2
        have r:R2 (CRel φ) ((cs.drop off).take ss.length) ((c.toList.drop off).take ss.length):=(rc.drop off).take _
        have hl:((c.toList.drop off).take ss.length).length=ss.length:=by rw [← r.len];simp;omega
        have hld:=run_loadCells_list (P:=P) w ⟨β b',off,none⟩ ((c.toList.drop off).take ss.length) (fun j v hv=>by
          rw [addr_add]
          rw [List.getElem?_take] at hv
          split at hv
          · rw [List.getElem?_drop] at hv;simp [World.cell?,hh];simpa using hv
          · cases hv)
        rw [hl] at hld
        simp only [TRel] at e
        refine ⟨d,.agg _,.agg ((c.toList.drop off).take ss.length).toArray,rfl,rfl,?_,_,rfl,by simpa using r⟩
        simp [execOp,ho,Instr.loadAt,Instr.sureAddr,e,loadVar,tAgg_run h2.1 w,tSize_run h2.2 w,hld]
    · cases h
  · cases hk
theorem storeCells_run {g off:Nat} {cur:Array Value} {t:TypeId} {vs:List Value} (hg:w.heap[g]? = some (.cells cur t (0,0))) (hl:off+vs.length≤cur.size) (h1:∀ v∈vs,v.oneCell' = true) :
    (storeCells ⟨g,off,none⟩ vs).run P w = .ok () (w.setRow g (cur.toList.take off++vs++cur.toList.drop (off+vs.length)).toArray):=by
  have:=run_storeCells_at P g off t vs 0 cur w hg (by simpa using hl) h1
  simpa using this
theorem setRow_keep (w:World) (g k:Nat) (cs:Array Value) (h:k≠g):(w.setRow g cs).heap[k]? = w.heap[k]?:=setRow_other w g k cs h
theorem sound_stL {y b n:Nat} {x:Src} {dst:Option Nat} {tm':TM} (hk:okOp P nr o (.stL y b x n)=true) (h:opLD tm dst (.stL y b x n)=some tm') (hr:∀ m,m=y∨m∈x.rd→Rd φ β a tm m)
    (hb:∀ cs,tm[b]? = some (.box cs)→BoxR φ w (β b) cs):∃ cs c c' e,tm' = tm.set b (.box cs)∧w.heap[β b]? = some (.cells c e (0,0))∧(execOp a.eval o).run P w = .ok .skip (w.setRow (β b) c')∧R2 (CRel φ) cs c'.toList:=by
  simp only [opLD,opL] at h
  simp only [okOp] at hk
  split at hk
  · rename_i t z z' ho
    simp only [Bool.and_eq_true] at hk
    have hz:=okTmp_eq hk.1.1;subst hz
    split at h
    · rename_i b' off cs hm hmb
      obtain ⟨v,hv,h⟩:=Option.bind_eq_some_iff.1 h
      obtain ⟨hbb,h⟩:=chk_some h
      simp only [Bool.and_eq_true,Nat.beq_eq,Nat.ble_eq] at hbb
      obtain ⟨⟨rfl,hn⟩,hle⟩:=hbb
      simp at h;subst h
      have e:=rd_eval (hr y (.inl rfl)) hm (by simp) (by simp)
      simp only [TRel] at e
      obtain ⟨c,el,hh,rc⟩:=hb cs hmb
      have rv:=(src_val (a:=a) (φ:=φ) hk.1.2 hv fun m hm=>hr m (.inr hm)).cells
      have hlen:(a.eval z').cells.toList.length=n:=by rw [← rv.len];exact hn
      have hcl:=rc.len
      simp only [Array.length_toList] at hcl hlen
      have hst:=storeCells_run (P:=P) (off:=off) (vs:=(a.eval z').cells.toList) hh (by simp;omega) rv.one
      refine ⟨_,c,(c.toList.take off++(a.eval z').cells.toList++c.toList.drop (off+(a.eval z').cells.toList.length)).toArray,el,rfl,hh,?_,?_⟩
      · have hs:(a.eval z').cells.size=n:=hlen
        simp only [execOp,ho,Instr.storeAt,Instr.sureAddr,e,storeVar,Sem.run_bind,Sem.run_pure,Result.andThen_ok,tSize_run hk.2 w,hs,ne_eq,not_true_eq_false,if_false,hst]
      · have:=((rc.take off).append rv).append (rc.drop (off+v.cells.length))
        rw [rv.len] at this
        simpa [splice,rv.len] using this
    · cases h
  · cases hk
def AllocOk (P:Program) (φ:Phi) (β:Nat→Nat) (a:Act) (w:World) (o:Oper) (G G':GH) (x:TV):Prop :=
  ∃ obj v O lim,G' = G.alloc obj∧obj.own=true∧(execOp a.eval o).run P w = .ok (.value v) (w.alloc O) ∧
    ∀ base ψ,φ.le ψ→ψ G.next=some ⟨w.heap.size,0,lim⟩→G.next≠0→base≤w.heap.size→TRel ψ β x v∧ObjR base ψ (w.alloc O) obj ⟨w.heap.size,0,lim⟩
theorem alloc_obj {cs:List Cell} {c:Array Value} {e:TypeId} {ψ:Phi} (hb:base≤w.heap.size) (r:R2 (CRel ψ) cs c.toList):ObjR base ψ (w.alloc (.cells c e)) (.row cs false) ⟨w.heap.size,0,c.size⟩:=by
  refine ⟨c,e,(0,0),heap_alloc_new w _,by have:=r.len;simp at this;simp;omega,Nat.le_refl _,fun i x hx=>?_,fun _=>⟨rfl,hb⟩,fun h=>by cases h⟩
  obtain ⟨v,hv,rv⟩:=r.get i x hx
  exact ⟨v,by simpa using hv,rv⟩
theorem sound_newz {cs:List Cell} {u:TV} (hk:okOp P nr o (.newz cs)=true) (h:opD C tm G (.newz cs)=some (u,G')):AllocOk P φ β a w o G G' u:=by
  simp only [opD,opK] at h
  simp at h;obtain ⟨rfl,rfl⟩:=h
  simp only [okOp] at hk
  split at hk
  · rename_i t ho
    obtain ⟨i,z,hi,hz,hsz,hok⟩:=tZero_info hk
    refine ⟨_,.pointer (some ⟨w.heap.size,0,none⟩),.cells z.cells t,z.cells.size,rfl,rfl,?_,fun base ψ l hn h0 hb=>⟨⟨h0,_,hn,rfl⟩,alloc_obj hb (okCells_rel hok)⟩⟩
    simp [execOp,ho,Instr.alloc,zeroValue,typeInfo,hi,hz,newVar,newRow]
  · cases hk
theorem sound_newv {x:Src} {n:Nat} {u:TV} (hk:okOp P nr o (.newv x n)=true) (h:opD C tm G (.newv x n)=some (u,G')) (hr:∀ n∈x.rd,Rd φ β a tm n):AllocOk P φ β a w o G G' u:=by
  simp only [opD,opK] at h
  obtain ⟨v,hv,h⟩:=Option.bind_eq_some_iff.1 h
  obtain ⟨hn,h⟩:=chk_some h
  simp at h;obtain ⟨rfl,rfl⟩:=h
  simp only [okOp] at hk
  split at hk
  · rename_i t y ho
    have rv:=(src_val (a:=a) (φ:=φ) hk hv hr).cells
    refine ⟨_,.pointer (some ⟨w.heap.size,0,none⟩),.cells (a.eval y).cells t,(a.eval y).cells.size,rfl,rfl,?_,fun base ψ l hn h0 hb=>⟨⟨h0,_,hn,rfl⟩,alloc_obj hb (rv.mono fun _ _=>CRel.mono l)⟩⟩
    simp [execOp,ho,Instr.box,newVar,newRow]
  · cases hk
theorem sl_new {es id len lim n:Nat} {ψ:Phi} (h0:id≠0) (hn:ψ id=some ⟨n,0,lim⟩) (hl:lim=len*es):CRel ψ (.sl es id 0 len) (.slice (some ⟨n,0,none⟩) len len) :=
  .inr ⟨h0,_,0,len,hn,rfl,Nat.le_refl _,.inl ⟨by simp,by simp [hl]⟩⟩
theorem sound_bslice {len es:Nat} {zero:List Cell} {parts:List (Nat×Nat×Src)} {u:TV} (hk:okOp P nr o (.bslice len es zero parts)=true) (h:opD C tm G (.bslice len es zero parts)=some (u,G'))
    (hr:∀ n∈(DOp.bslice len es zero parts).rd,Rd φ β a tm n):AllocOk P φ β a w o G G' u:=by
  simp only [opD,opK] at h
  obtain ⟨cs,hcs,h⟩:=Option.bind_eq_some_iff.1 h
  simp at h;obtain ⟨rfl,rfl⟩:=h
  simp only [okOp] at hk
  split at hk
  · rename_i t n ps ho
    simp only [Bool.and_eq_true,Nat.beq_eq,Nat.ble_eq] at hk
    obtain ⟨⟨⟨rfl,hs⟩,hm⟩,hsm⟩:=hk
    obtain ⟨e,i,hu,hi,hse,h0⟩:=tSlice_info hs
    rw [hu] at hm
    simp only [Bool.and_eq_true] at hm
    obtain ⟨hz,hp⟩:=hm
    rw [hi] at hz
    simp only at hz
    split at hz
    · rename_i z hzz
      simp only [Bool.and_eq_true,Nat.beq_eq] at hz
      obtain ⟨out,h3,h4,h5⟩:=fill_rel (a:=a) (φ:=φ) (fun i=>some (i*es,es)) parts ps.toList zero cs _ hp hcs (okCells_rel hz.2) hr
      have hsz:out.size=n*es:=by rw [h5];simp
      refine ⟨_,.slice (some ⟨w.heap.size,0,none⟩) n n,.cells out e,out.size,rfl,rfl,?_,fun base ψ l hn h0 hb=>⟨sl_new h0 hn hsz,alloc_obj hb (h4.mono fun _ _=>CRel.mono l)⟩⟩
      by_cases hn0:n=0
      · subst hn0
        have ho0:out = #[]:=by apply Array.eq_empty_of_size_eq_zero;simpa using hsz
        subst ho0
        have hr0:Array.range 0 = #[]:=rfl
        simp only [Nat.zero_mul,hr0,Array.map_empty] at h3
        subst hse
        have h3':Instr.fill (fun j=>some (j*i.size,i.size)) #[] (ps.toList.map fun (i,x)=>(i,a.eval x))=some #[]:=by simpa using h3
        simp only [execOp,ho,Instr.buildSlice,run_underlying hu,sizeOf,typeInfo,hi,newRow,Sem.run_bind,Sem.run_pure,Result.andThen_ok,run_program,Nat.zero_mul,hr0,Array.map_empty,Sem.run_ite,if_true,gt_iff_lt,Nat.not_lt_zero,if_false]
        rw [show (ps.map fun x=>(x.1,a.eval x.2)).toList=ps.toList.map fun (i,x)=>(i,a.eval x) by simp]
        simp [h3']
      · have hrun:=run_buildSlice (P:=P) w t e n (ps.map fun (i,x)=>(i,a.eval x)) out i z hu hi hzz (by rw [hse];omega) (by rw [hse];exact Nat.mul_ne_zero hn0 h0) (by subst hse;simpa using h3)
        simp [execOp,ho,hrun]
    · cases hz
  · cases hk
theorem reps_get (zero:List Cell) (h0:zero.length≠0):∀ n i,i<n*zero.length→(reps n zero)[i]? = zero[i % zero.length]?:=by
  intro n
  induction n with
  | zero=>intro i hi;simp at hi
  | succ n ih =>
    intro i hi
    simp only [reps,List.replicate_succ,List.flatten_cons]
    by_cases c:i<zero.length
    · rw [List.getElem?_append_left c,Nat.mod_eq_of_lt c]
    · rw [List.getElem?_append_right (by omega)]
      have:=ih (i-zero.length) (by rw [Nat.succ_mul] at hi;omega)
      simp only [reps] at this
      rw [this,Nat.mod_eq_sub_mod (by omega:i≥zero.length)]
theorem length_reps (n:Nat) (zero:List Cell):(reps n zero).length=n*zero.length:=by simp [reps]
theorem sound_mkslice {n:Src} {es bytes:Nat} {zero:List Cell} {u:TV} (hk:okOp P nr o (.mkslice n es bytes zero)=true) (h:opD C tm G (.mkslice n es bytes zero)=some (u,G'))
    (hr:∀ m∈n.rd,Rd φ β a tm m):AllocOk P φ β a w o G G' u:=by
  simp only [opD,opK,natK] at h
  obtain ⟨p,hp,h⟩:=Option.bind_eq_some_iff.1 h
  obtain ⟨hg,h⟩:=guardK_some h
  simp at h;obtain ⟨rfl,rfl⟩:=h
  have hg:=of_decide_eq_true hg
  have hm40:(most:Int)=1099511627776:=rfl
  rw [hm40] at hg
  simp only [okOp] at hk
  split at hk
  · rename_i t y z ho
    simp only [Bool.and_eq_true,Nat.beq_eq,Nat.ble_eq] at hk
    obtain ⟨⟨⟨⟨⟨hy,hz⟩,hs⟩,hm⟩,hby⟩,hlen⟩:=hk
    obtain ⟨e,i,hu,hi,hse,h0⟩:=tSlice_info hs
    rw [hu] at hm
    simp only [Bool.and_eq_true] at hm
    obtain ⟨i',z',hi',hzz,hsz,hok⟩:=tZero_info hm.1
    rw [hi] at hi';cases hi'
    have hb:i.bytes=bytes:=by have:=hm.2;unfold tBytes at this;rw [hi] at this;simpa [Nat.beq_eq] using this
    have ey:=src_nat (a:=a) hy hp hr
    have ez:=src_nat (a:=a) hz hp hr
    have rz:R2 (CRel φ) zero z'.cells.toList:=okCells_rel hok
    have hzl:z'.cells.size=es:=by have:=rz.len;simp at this;omega
    have hby':(i.bytes:Int)*p.2≤281474976710656:=by
      rw [hb]
      have h1:(bytes:Int)≤128:=by omega
      have:=Int.mul_le_mul h1 hg.2 hg.1 (by omega)
      omega
    have hrun:=run_make (P:=P) w t e i z' hu hi hzz p.1 p.1 p.2 p.2 hg.1 (Int.le_refl _) hby' (by omega)
    refine ⟨_,.slice (some ⟨w.heap.size,0,none⟩) p.2.toNat p.2.toNat,.cells (madeCells z'.cells (p.2.toNat*i.size)) e,p.2.toNat*es,rfl,rfl,by simp [execOp,ho,ey,ez,hrun],fun base ψ l hn h0' hb'=>⟨sl_new h0' hn rfl,?_⟩⟩
    have hms:(madeCells z'.cells (p.2.toNat*i.size)).size=p.2.toNat*es:=by rw [size_madeCells,hse]
    have r:R2 (CRel ψ) (reps p.2.toNat zero) (madeCells z'.cells (p.2.toNat*i.size)).toList:=by
      refine ⟨by simp only [Array.length_toList,hms,length_reps,hlen],fun j x hx=>?_⟩
      have hj:j<p.2.toNat*es:=by
        have:=(List.getElem?_eq_some_iff.1 hx).1;rw [length_reps,hlen] at this;exact this
      rw [reps_get zero (by omega) _ _ (by rw [hlen];exact hj)] at hx
      obtain ⟨v,hv,rv⟩:=rz.get _ x hx
      refine ⟨v,?_,rv.mono l⟩
      have hv':z'.cells[j % z'.cells.size]? = some v:=by rw [hzl,← hlen];simpa using hv
      simp only [madeCells,Array.getElem?_toList,Array.getElem?_map]
      rw [Array.getElem?_range]
      simp only [hse,hj,if_true,Option.map_some]
      rw [getElem!_def,hv']
    have:=alloc_obj (base:=base) (w:=w) (e:=e) hb' r
    rw [hms] at this
    exact this
  · cases hk
theorem sound_mkmap {ks:VS} {u:TV} (hk:okOp P nr o (.mkmap ks)=true) (h:opD C tm G (.mkmap ks)=some (u,G')):AllocOk P φ β a w o G G' u:=by
  simp only [opD,opK] at h
  simp at h;obtain ⟨rfl,rfl⟩:=h
  simp only [okOp] at hk
  split at hk
  · rename_i t ho
    refine ⟨_,.map (some w.heap.size),.map #[] 0,0,rfl,rfl,by simp [execOp,ho,Instr.makeMap],fun base ψ l hn h0 hb=>⟨.inr ⟨h0,_,hn,rfl⟩,#[],0,heap_alloc_new w _,hb,R2.nil,fun p hp=>by cases hp⟩⟩
  · cases hk
end
end Go.Proofs.D
/- Operations that write. -/
set_option linter.unusedVariables false
namespace Go.Proofs.D
open Go
structure Good (base:Nat) (φ:Phi) (G:GH) (w:World) (φ':Phi) (G':GH) (w':World):Prop where
  le:φ.le φ'
  H:HRel base φ' G'.get w'
  dom:∀ id,φ' id≠none→φ id≠none∨(G.next≤id∧id<G'.next)
  nb:∀ b,OwnB φ' G'.get b→OwnB φ G.get b∨w.heap.size≤b
  sz:w.heap.size≤w'.heap.size
  keep:∀ b,b<w.heap.size→¬ OwnB φ G.get b→w'.heap[b]? = w.heap[b]?
  os:w'.os=w.os
  tape:w'.tape=w.tape
  output:w'.output=w.output
  nx:G.next≤G'.next
  wf:G'.wf
section
variable {P:Program} {nr base:Nat} {φ:Phi} {β:Nat→Nat} {a:Act} {w:World} {tm:TM} {C:Call} {G G':GH} {o:Oper}
theorem Good.refl (H:HRel base φ G.get w) (hw:G.wf):Good base φ G w φ G w:=⟨.refl _,H,fun _ h=>.inl h,fun _ h=>.inl h,Nat.le_refl _,fun _ _ _=>rfl,rfl,rfl,rfl,Nat.le_refl _,hw⟩
theorem Good.drew {φ':Phi} {w':World} (h:Good base φ G w φ' G' w'):Good base φ G w φ' G' w'.drew :=
  ⟨h.le,h.H.keep (.refl _) fun _ _ _ _ _=>rfl,h.dom,h.nb,h.sz,h.keep,h.os,h.tape,h.output,h.nx,h.wf⟩
def ActOk (P:Program) (base:Nat) (φ:Phi) (β:Nat→Nat) (a:Act) (w:World) (o:Oper) (G G':GH) (x:TV):Prop :=
  ∀ (Q:Exit→Act→World→Prop) (K:Act→World→Prop),(∀ φ' v w',Good base φ G w φ' G' w'→TRel φ' β x v→K (a.put o.dst v) w')→o.wp P a w K Q
theorem ActOk.value {φ':Phi} {v:Value} {w':World} {x:TV} (hr:(execOp a.eval o).run P w = .ok (.value v) w') (g:Good base φ G w φ' G' w') (r:TRel φ' β x v):ActOk P base φ β a w o G G' x:=by
  intro Q K h
  unfold Oper.wp
  rw [hr];exact h _ _ _ g r
theorem ActOk.skip {φ':Phi} {w':World} (hr:(execOp a.eval o).run P w = .ok .skip w') (g:Good base φ G w φ' G' w'):ActOk P base φ β a w o G G' .und:=by
  intro Q K h
  unfold Oper.wp
  rw [hr];exact h _ _ _ g trivial
theorem wf_set' (hw:G.wf) {id:Nat} {o:Option Obj} {o':Obj} (h:G.get id=some o'):(G.set id o).wf:=by
  refine ⟨fun j hj=>?_,hw.2⟩
  rw [GH.get_set]
  split
  · rename_i e;subst e
    have:=hw.1 j hj
    rw [this] at h;cases h
  · exact hw.1 j hj
theorem wf_alloc (hw:G.wf) (o:Obj):(G.alloc o).wf:=by
  refine ⟨fun j hj=>?_,by rw [GH.next_alloc];omega⟩
  rw [GH.next_alloc] at hj
  rw [GH.get_alloc,if_neg (by omega)]
  exact hw.1 j (by omega)
theorem good_put {id:Nat} {o o':Obj} {L:Loc} {w':World} (H:HRel base φ G.get w) (hw:G.wf) (hid:G.get id=some o) (ho:o.own=true) (hL:φ id=some L) (ho':o'.own=true)
    (hO:ObjR base φ w' o' L) (hs:w'.heap.size=w.heap.size) (hk:∀ b,b≠L.blk→w'.heap[b]? = w.heap[b]?) (h1:w'.os=w.os) (h2:w'.tape=w.tape) (h3:w'.output=w.output) :
    Good base φ G w φ (G.set id (some o')) w':=by
  have h0:id≠0:=by intro e;subst e;rw [H.zero] at hid;cases hid
  have hget:∀ j,(G.set id (some o')).get j=if j=id then some o' else G.get j:=fun j=>GH.get_set G id j _
  have own:OwnB φ G.get L.blk:=⟨id,o,L,hid,ho,hL,rfl⟩
  refine ⟨.refl _,?_,fun _ h=>.inl h,fun b hb=>?_,by omega,fun b _ hn=>hk b (fun e=>hn (e ▸ own)),h1,h2,h3,Nat.le_refl _,wf_set' hw hid⟩
  · refine H.step (.refl _) h0 hL hO (by rw [hget];simp) fun j oj ne hj=>?_
    rw [hget,if_neg ne] at hj
    refine ⟨hj,fun M hM=>?_⟩
    have hne:oj.own=true→M.blk≠L.blk:=fun k e=>ne (H.inj j id oj o M L hj hid k ho hM hL e)
    refine ⟨?_,fun k _=>hne k⟩
    apply hk
    intro e
    cases hk:oj.own with
    | true=>exact hne hk e
    | false =>
      obtain ⟨M',hM',k⟩:=H.obj j oj hj
      rw [hM] at hM';cases hM'
      obtain ⟨L',hL',k'⟩:=H.obj id o hid
      rw [hL] at hL';cases hL'
      have:=k.lt_base hk;have:=k'.base_le ho;omega
  · obtain ⟨j,oj,M,hj,ko,hM,e⟩:=hb
    rw [hget] at hj
    split at hj
    · rename_i ej;subst ej;exact .inl ⟨j,o,M,hid,ho,hM,e⟩
    · exact .inl ⟨j,oj,M,hj,ko,hM,e⟩
theorem good_fresh {o':Obj} {L':Loc} {w':World} {G':GH} {dead:Nat→Bool} (H:HRel base φ G.get w) (hw:G.wf) (hf:φ G.next=none) (hget:∀ j,G'.get j=if j=G.next then some o' else if dead j then none else G.get j)
    (hnx:G'.next=G.next+1) (hO:ObjR base (φ.put G.next L') w' o' L')
    (hblk:w.heap.size≤L'.blk∨∃ d od Ld,dead d=true∧G.get d=some od∧od.own=true∧φ d=some Ld∧Ld.blk=L'.blk)
    (hs:w.heap.size≤w'.heap.size) (hk:∀ b,b<w.heap.size→b≠L'.blk→w'.heap[b]? = w.heap[b]?) (h1:w'.os=w.os) (h2:w'.tape=w.tape) (h3:w'.output=w.output) :
    Good base φ G w (φ.put G.next L') G' w':=by
  have h0:G.next≠0:=by have:=hw.2;omega
  have le:=Phi.le_put L' hf
  have apart:∀ j oj M,dead j=false→G.get j=some oj→φ j=some M→M.blk≠L'.blk∨(oj.own=false∧M.blk≠L'.blk):=fun j oj M hd hj hM=>by
    left
    obtain ⟨M',hM',k⟩:=H.obj j oj hj
    rw [hM] at hM';cases hM'
    have:=k.blk
    rcases hblk with hb | ⟨d,od,Ld,hdd,hdo,hown,hLd,e⟩
    · omega
    · intro e2
      cases ho:oj.own with
      | true=>have:=H.inj j d oj od M Ld hj hdo ho hown hM hLd (by rw [e2,e]);subst this;rw [hd] at hdd;cases hdd
      | false =>
        obtain ⟨L2,hL2,k2⟩:=H.obj d od hdo
        rw [hLd] at hL2;cases hL2
        have:=k.lt_base ho;have:=k2.base_le hown;omega
  refine ⟨le,?_,fun id h=>?_,fun b hb=>?_,hs,fun b hb hn=>?_,h1,h2,h3,by omega,?_⟩
  · refine H.step le h0 (Phi.put_self _ _ _) hO (by rw [hget];simp) fun j oj ne hj=>?_
    rw [hget,if_neg ne] at hj
    split at hj
    · cases hj
    · rename_i hd
      refine ⟨hj,fun M hM=>?_⟩
      have hd':dead j=false:=by simpa using hd
      have hne:M.blk≠L'.blk:=(apart j oj M hd' hj hM).elim id fun x=>x.2
      obtain ⟨M',hM',k⟩:=H.obj j oj hj
      rw [hM] at hM';cases hM'
      exact ⟨hk _ k.blk hne,fun _ _=>hne⟩
  · unfold Phi.put at h
    split at h
    · rename_i e;subst e;right;omega
    · exact .inl h
  · obtain ⟨j,oj,M,hj,ko,hM,e⟩:=hb
    rw [hget] at hj
    split at hj
    · rename_i ej;subst ej
      rw [Phi.put_self] at hM;cases hM
      rcases hblk with hb | ⟨d,od,Ld,hdd,hdo,hown,hLd,e2⟩
      · right;omega
      · left;exact ⟨d,od,Ld,hdo,hown,hLd,by rw [e2,e]⟩
    · rename_i ne
      split at hj
      · cases hj
      · left
        refine ⟨j,oj,M,hj,ko,?_,e⟩
        unfold Phi.put at hM;rw [if_neg ne] at hM;exact hM
  · refine hk b hb fun e=>hn ?_
    rcases hblk with hb' | ⟨d,od,Ld,hdd,hdo,hown,hLd,e2⟩
    · omega
    · exact ⟨d,od,Ld,hdo,hown,hLd,by rw [e2,e]⟩
  · refine ⟨fun j hj=>?_,by omega⟩
    rw [hget,if_neg (by omega)]
    split
    · rfl
    · exact hw.1 j (by omega)
theorem own_row {id:Nat} {cs:List Cell} (h:G.own id=some cs):G.get id=some (.row cs false):=by
  unfold GH.own at h;split at h
  · rename_i hg;simp at h;subst h;exact hg
  · cases h
theorem row_cells {id:Nat} {cs:List Cell} {L:Loc} (H:HRel base φ G.get w) (hid:G.get id=some (.row cs false)) (hL:φ id=some L) :
    ∃ c e,w.heap[L.blk]? = some (.cells c e (0,0))∧L.sh+cs.length≤L.lim∧L.lim≤c.size∧(∀ i x,cs[i]? = some x→∃ v,c[L.sh+i]? = some v∧CRel φ x v)∧base≤L.blk:=by
  obtain ⟨L',hL',c,e,r,hh,a1,a2,a3,a4,_⟩:=H.obj _ _ hid
  rw [hL] at hL';cases hL'
  obtain ⟨rfl,hb⟩:=a4 rfl
  exact ⟨c,e,hh,a1,a2,a3,hb⟩
theorem splice_rel {cs new:List Cell} {off:Nat} {L:Loc} {c:Array Value} {vs:List Value} (hc:∀ i x,cs[i]? = some x→∃ v,c[L.sh+i]? = some v∧CRel φ x v) (rn:R2 (CRel φ) new vs) (hle:L.sh+(off+new.length)≤c.size) (hoff:off≤cs.length) :
    ∀ i x,(splice cs off new)[i]? = some x→∃ v,(c.toList.take (L.sh+off)++vs++c.toList.drop (L.sh+off+vs.length)).toArray[L.sh+i]? = some v∧CRel φ x v:=by
  intro i x hx
  have hl:=rn.len
  simp only [splice] at hx
  simp only [List.getElem?_toArray]
  have lt:(c.toList.take (L.sh+off)).length=L.sh+off:=by simp;omega
  have ltc:(cs.take off).length=off:=by simp;omega
  by_cases h1:i<off
  · rw [List.append_assoc,List.getElem?_append_left (by rw [ltc];exact h1),List.getElem?_take,if_pos h1] at hx
    obtain ⟨v,hv,rv⟩:=hc i x hx
    refine ⟨v,?_,rv⟩
    rw [List.append_assoc,List.getElem?_append_left (by rw [lt];omega),List.getElem?_take,if_pos (by omega)]
    simpa using hv
  · by_cases h2:i<off+new.length
    · rw [List.append_assoc,List.getElem?_append_right (by rw [ltc];omega),ltc,List.getElem?_append_left (by omega)] at hx
      obtain ⟨v,hv,rv⟩:=rn.get _ x hx
      refine ⟨v,?_,rv⟩
      rw [List.append_assoc,List.getElem?_append_right (by rw [lt];omega),lt,List.getElem?_append_left (by omega),← hv]
      congr 1;omega
    · rw [List.append_assoc,List.getElem?_append_right (by rw [ltc];omega),ltc,List.getElem?_append_right (by omega),List.getElem?_drop] at hx
      obtain ⟨v,hv,rv⟩:=hc _ x hx
      refine ⟨v,?_,rv⟩
      rw [List.append_assoc,List.getElem?_append_right (by rw [lt];omega),lt,List.getElem?_append_right (by omega),List.getElem?_drop]
      have:c.toList[L.sh+(off+new.length+(i-off-new.length))]? = some v:=by simpa using hv
      rw [← this];congr 1;omega
theorem sound_stG {y n:Nat} {x:Src} {u:TV} (hk:okOp P nr o (.stG y x n)=true) (h:opD C tm G (.stG y x n)=some (u,G')) (H:HRel base φ G.get w) (hw:G.wf) (hr:∀ m,m=y∨m∈x.rd→Rd φ β a tm m) :
    ActOk P base φ β a w o G G' u:=by
  simp only [opD,opK] at h
  simp only [okOp] at hk
  split at hk
  · rename_i t z z' ho
    simp only [Bool.and_eq_true] at hk
    have hz:=okTmp_eq hk.1.1;subst hz
    split at h
    · rename_i id off hm
      obtain ⟨v,hv,h'⟩:=Option.bind_eq_some_iff.1 h
      obtain ⟨hn,h'⟩:=chk_some h'
      obtain ⟨G2,hG,h'⟩:=Option.bind_eq_some_iff.1 h'
      clear h
      simp at h';obtain ⟨rfl,rfl⟩:=h'
      rw [Nat.beq_eq] at hn
      unfold GH.sts at hG
      obtain ⟨cs,hcs,hG⟩:=Option.bind_eq_some_iff.1 hG
      split at hG
      · rename_i hle
        simp at hG;subst hG
        have hid:=own_row hcs
        obtain ⟨h0,L,hL,e⟩:=rd_eval (hr y (.inl rfl)) hm (by simp) (by simp)
        obtain ⟨c,el,hh,a1,a2,a3,a4⟩:=row_cells H hid hL
        have rv:=(src_val (a:=a) (φ:=φ) hk.1.2 hv fun m hm=>hr m (.inr hm)).cells
        have hlen:(a.eval z').cells.toList.length=n:=by rw [← rv.len];exact hn
        have hst:=storeCells_run (P:=P) (off:=L.sh+off) (vs:=(a.eval z').cells.toList) hh (by omega) rv.one
        have hs:(a.eval z').cells.size=n:=by simpa using hlen
        refine ActOk.skip (φ':=φ) (w':=w.setRow L.blk (c.toList.take (L.sh+off)++(a.eval z').cells.toList++c.toList.drop (L.sh+off+(a.eval z').cells.toList.length)).toArray) ?_ ?_
        · simp only [execOp,ho,Instr.storeAt,Instr.sureAddr,e,storeVar,Sem.run_bind,Sem.run_pure,Result.andThen_ok,tSize_run hk.2 w,hs,ne_eq,not_true_eq_false,if_false,hst]
        · have hspl:(splice cs off v.cells).length=cs.length:=by simp [splice];omega
          refine good_put H hw hid rfl hL rfl ?_ (size_setRow _ _ _) (fun b hb=>setRow_keep _ _ _ _ hb) rfl rfl rfl
          refine ⟨_,el,(0,0),setRow_heap w L.blk c _ el _ hh,by rw [hspl];exact a1,by simp;omega,splice_rel a3 rv (by omega) (by omega),fun _=>⟨rfl,a4⟩,fun h=>by cases h⟩
      · cases hG
    · cases h
  · cases hk
theorem lds_cells {id off n:Nat} {new:List Cell} {L:Loc} (H:HRel base φ G.get w) (hl:G.lds id off n=some new) (hL:φ id=some L) :
    new.length=n∧∃ vs:List Value,R2 (CRel φ) new vs∧∀ j v,vs[j]? = some v→w.cell? ((⟨L.blk,L.sh+off,none⟩:Addr).add j)=some v:=by
  unfold GH.lds GH.row at hl
  obtain ⟨cs,hcs,hc⟩:=Option.bind_eq_some_iff.1 hl
  split at hc
  · rename_i hle
    simp at hc;subst hc
    refine ⟨by simp;omega,?_⟩
    have hg:∃ o,G.get id=some o∧(o = .lit cs∨∃ fz,o = .row cs fz):=by
      split at hcs
      · rename_i cs' fz hg;simp at hcs;subst hcs;exact ⟨_,hg,.inr ⟨fz,rfl⟩⟩
      · rename_i cs' hg;simp at hcs;subst hcs;exact ⟨_,hg,.inl rfl⟩
      · cases hcs
    obtain ⟨ob,hg,ho⟩:=hg
    have hK:∃ L',φ id=some L'∧∃ c e r,w.heap[L'.blk]? = some (.cells c e r)∧L'.sh+cs.length≤L'.lim∧L'.lim≤c.size∧∀ i x,cs[i]? = some x→∃ v,c[L'.sh+i]? = some v∧CRel φ x v:=by
      obtain ⟨L',hL',k⟩:=H.obj _ _ hg
      rcases ho with rfl | ⟨fz,rfl⟩
      · obtain ⟨c,e,r,hh,b1,b2,hcell,_⟩:=k;exact ⟨L',hL',c,e,r,hh,b1,b2,hcell⟩
      · obtain ⟨c,e,r,hh,b1,b2,hcell,_⟩:=k;exact ⟨L',hL',c,e,r,hh,b1,b2,hcell⟩
    obtain ⟨L',hL',c,e,r,hh,b1,b2,hcell⟩:=hK
    rw [hL] at hL';cases hL'
    refine ⟨(c.toList.drop (L.sh+off)).take n,⟨by simp;omega,fun i x hx=>?_⟩,fun j v hv=>?_⟩
    · rw [List.getElem?_take] at hx ⊢
      split at hx
      · rename_i hi
        rw [List.getElem?_drop] at hx
        obtain ⟨v,hv,rv⟩:=hcell _ x hx
        refine ⟨v,?_,rv⟩
        rw [if_pos hi,List.getElem?_drop,Nat.add_assoc]
        simpa using hv
      · cases hx
    · rw [List.getElem?_take] at hv
      split at hv
      · rw [List.getElem?_drop] at hv
        rw [addr_add]
        simp [World.cell?,hh];simpa using hv
      · cases hv
  · cases hc
end
end Go.Proofs.D
/- append,calls. -/
set_option linter.unusedVariables false
namespace Go.Proofs.D
open Go
section
variable {P:Program} {nr base:Nat} {φ:Phi} {β:Nat→Nat} {a:Act} {w:World} {tm:TM} {C:Call} {G G':GH} {o:Oper}

theorem app_zero {t u ty e e':TypeId} {i:TypeInfo} (ht:P.underlying t=some (.slice e)) (hu:P.underlying u=some (.slice e')) (hi:P.info? e=some i) (b:Option Addr) (sLen sCap:Nat) (hle:sLen≤sCap) (b':Option Addr) (c:Nat) :
    (Builtin.append_ #[t,u] ty #[.slice b sLen sCap,.slice b' 0 c]).run P w = .ok (.slice b sLen sCap) w:=by
  have h1:(Builtin.firstCells i.size 0 (.slice b' 0 c)).run P w = .ok #[] w:=by
    cases b' <;> simp [Builtin.firstCells,loadCells,loadCellsFrom]
  cases b <;> simp [Builtin.append_,run_underlying ht,run_underlying hu,sizeOf,typeInfo,hi,Builtin.lenOf,hle,h1,storeCells]
theorem app_room {t u ty e e':TypeId} {i:TypeInfo} {g off sLen sCap m c:Nat} {cur:Array Value} {te:TypeId} {b:Addr} {news:List Value} (ht:P.underlying t=some (.slice e)) (hu:P.underlying u=some (.slice e')) (hi:P.info? e=some i)
    (hg:w.heap[g]? = some (.cells cur te (0,0))) (hl:news.length=m*i.size) (hnews:∀ j v,news[j]? = some v→w.cell? (b.add j)=some v) (h1:∀ v∈news,v.oneCell' = true)
    (hroom:sLen+m≤sCap) (hfit:off+sLen*i.size+news.length≤cur.size) :
    (Builtin.append_ #[t,u] ty #[.slice (some ⟨g,off,none⟩) sLen sCap,.slice (some b) m c]).run P w =
      .ok (.slice (some ⟨g,off,none⟩) (sLen+m) sCap) (w.setRow g (cur.toList.take (off+sLen*i.size)++news++cur.toList.drop (off+sLen*i.size+news.length)).toArray):=by
  have hf:=run_firstCells_some (P:=P) w i.size m b m c news hl hnews
  have hst:=storeCells_run (P:=P) (off:=off+sLen*i.size) (vs:=news) hg hfit h1
  simp [Builtin.append_,run_underlying ht,run_underlying hu,sizeOf,typeInfo,hi,Builtin.lenOf,hroom,hf,addr_add,hst]
theorem app_grow {t u ty e e':TypeId} {i:TypeInfo} {z:Value} {s:Option Addr} {sLen sCap m c:Nat} {b:Addr} {olds news:List Value} (ht:P.underlying t=some (.slice e)) (hu:P.underlying u=some (.slice e')) (hi:P.info? e=some i) (hz:i.zero=some z)
    (hlo:olds.length=sLen*i.size) (hol:s=none→sLen=0) (holds:∀ p,s=some p→∀ j v,olds[j]? = some v→w.cell? (p.add j)=some v)
    (hl:news.length=m*i.size) (hnews:∀ j v,news[j]? = some v→w.cell? (b.add j)=some v)
    (hg:sCap<sLen+m) (h63:sLen+m≤1099511627776) (hb:i.bytes≤128) :
    (Builtin.append_ #[t,u] ty #[.slice s sLen sCap,.slice (some b) m c]).run P w =
      .ok (.slice (some ⟨w.heap.size,0,none⟩) (sLen+m) (grownCap w (sLen+m) sCap e))
        (w.drew.alloc (.cells (olds.toArray++news.toArray++Builtin.zeroCells z.cells (grownCap w (sLen+m) sCap e-(sLen+m))) e)):=by
  have hn:¬ (sLen+m≤sCap):=by omega
  have h63':¬ (9223372036854775807<((sLen:Int)+(m:Int))):=by omega
  have hfit:Builtin.nextslicecap (sLen+m) sCap*i.bytes≤281474976710656:=growslice_fits hg (by
    have:=Nat.mul_le_mul h63 hb;omega)
  have h48':¬ (281474976710656<Builtin.nextslicecap (sLen+m) sCap*i.bytes):=by omega
  have hf:=run_firstCells_some (P:=P) w.drew i.size m b m c news hl (by simpa using hnews)
  cases s with
  | none =>
    have h0:=hol rfl
    subst h0
    have:olds=[]:=by simpa using hlo
    subst this
    simp only [Nat.zero_add] at *
    simp [Builtin.append_,run_underlying ht,run_underlying hu,sizeOf,typeInfo,zeroValue,hi,hz,Builtin.lenOf,hn,show ¬ (9223372036854775807<(m:Int)) by omega,h48',Question.forced,hf,newRow,grownCap,run_firstCells_none]
  | some p =>
    have hfo:=run_firstCells_some (P:=P) w.drew i.size sLen p sLen sCap olds hlo (by simpa using holds p rfl)
    simp [Builtin.append_,run_underlying ht,run_underlying hu,sizeOf,typeInfo,zeroValue,hi,hz,Builtin.lenOf,hn,h63',h48',Question.forced,hf,hfo,newRow,grownCap]
    simp only [← Array.append_assoc,List.append_toArray]
theorem args2 {c:Go.Call} {x y:Src} (h:okSrcs nr c.args.toList [x,y]=true):∃ p q,c.args = #[p,q]∧okSrc nr p x=true∧okSrc nr q y=true:=by
  cases hl:c.args.toList with
  | nil=>simp [hl,okSrcs] at h
  | cons p ps=>cases ps with
    | nil=>simp [hl,okSrcs] at h
    | cons q qs=>cases qs with
      | nil=>simp [hl,okSrcs] at h;exact ⟨p,q,arr_of_list hl,h.1,h.2⟩
      | cons=>simp [hl,okSrcs] at h
theorem sound_app {x y:Src} {es bytes:Nat} {u:TV} (hk:okOp P nr o (.app x y es bytes)=true) (h:opD C tm G (.app x y es bytes)=some (u,G')) (H:HRel base φ G.get w) (hw:G.wf) (hb:base≤w.heap.size)
    (hf:∀ id,G.next≤id→id<G'.next→φ id=none) (hr:∀ n∈(DOp.app x y es bytes).rd,Rd φ β a tm n):ActOk P base φ β a w o G G' u:=by
  simp only [opD,opK,sK] at h
  obtain ⟨p,hp,h1⟩:=Option.bind_eq_some_iff.1 h
  obtain ⟨q,hq,h2⟩:=Option.bind_eq_some_iff.1 h1
  obtain ⟨new,hnew,h3⟩:=Option.bind_eq_some_iff.1 h2
  obtain ⟨hg,h4⟩:=guardK_some h3
  obtain ⟨r,hrr,h5⟩:=Option.bind_eq_some_iff.1 h4
  clear h h1 h2 h3 h4
  simp at h5;obtain ⟨rfl,rfl⟩:=h5
  have hmost:p.2.2+q.2.2≤1099511627776:=by have:=of_decide_eq_true hg;simpa [most] using this
  obtain ⟨id,off,len⟩:=p
  obtain ⟨id',off',len'⟩:=q
  dsimp only at *
  simp only [okOp] at hk
  split at hk
  · rename_i c ho
    simp only [Bool.and_eq_true] at hk
    obtain ⟨⟨⟨⟨hcal,hargs⟩,hty⟩,hby⟩,hb0⟩:=hk
    have hc:c.callee = .builtin .append:=by split at hcal <;> simp_all
    obtain ⟨y1,y2,hca,hk1,hk2⟩:=args2 hargs
    have ex:=src_sl (a:=a) (φ:=φ) hk1 hp fun n hn=>hr n (mem_l hn)
    have ey:=src_sl (a:=a) (φ:=φ) hk2 hq fun n hn=>hr n (mem_r hn)
    split at hty
    · rename_i t uu hat hau
      simp only [Bool.and_eq_true] at hty
      obtain ⟨⟨hts,htb⟩,htu⟩:=hty
      obtain ⟨e,i,hu,hi,hse,h0⟩:=tSlice_info hts
      rw [hu] at htb
      simp only [Bool.and_eq_true] at htb
      have hbytes:i.bytes≤128:=by
        have:=htb.1;unfold tBytes at this;rw [hi] at this;simp only [Nat.beq_eq] at this;simp only [Nat.ble_eq] at hby;omega
      have hz:∃ z,i.zero=some z∧z.cells.size=es:=by
        have:=htb.2;rw [hi] at this;simp only at this;split at this
        · rename_i z hz;exact ⟨z,hz,by simpa [Nat.beq_eq] using this⟩
        · cases this
      obtain ⟨z,hz,hzs⟩:=hz
      have htu:∃ e',P.underlying uu=some (.slice e'):=by split at htu <;> simp_all
      obtain ⟨e',hu'⟩:=htu
      have hata:c.argTypes.toList[0]? = some t:=by simpa using hat
      have hatb:c.argTypes.toList[1]? = some uu:=by simpa using hau
      have hexec:∀ (v:Value) (w':World),(Builtin.append_ #[t,uu] o.type #[a.eval y1,a.eval y2]).run P w = .ok v w'→(execOp a.eval o).run P w = .ok (.value v) w':=fun v w' hr'=>by
        have:(Builtin.append_ c.argTypes o.type #[a.eval y1,a.eval y2]).run P w = .ok v w':=by
          rw [← hr']
          simp only [Builtin.append_]
          simp [hat,hau]
        simp [execOp,ho,resolve,hc,hca,invoke,builtin,this]
      by_cases hm:len' = 0
      · -- nothing is added
        subst hm
        have hG:r=(id,off,G):=by unfold GH.app at hrr;simp at hrr;exact hrr.symm
        subst hG
        obtain ⟨b,cap,hv,hle⟩:=sl_slice ex
        obtain ⟨b',cap',hv',_⟩:=sl_slice ey
        refine ActOk.value (hexec _ _ (by rw [hv,hv'];exact app_zero hu hu' hi b len cap hle b' cap')) (.refl H hw) ?_
        simp only [Nat.add_zero]
        rw [hv] at ex;exact ex
      · -- what is added
        rw [if_neg hm] at hnew
        obtain ⟨hid',L',o',cap',hL',hv',hle',hcap'⟩:∃ (h0:id'≠0) (L':Loc) (o' cap':Nat),φ id' = some L'∧a.eval y2 = .slice (some ⟨L'.blk,o',none⟩) len' cap'∧len'≤cap'∧((o' = L'.sh+off'∧o' + cap' * es=L'.lim)∨(cap' = 0∧L'.sh+off' = L'.lim)):=by
          rcases ey with ⟨_,_,e0,_⟩ | ⟨h0,L',o',cap',k⟩
          · exact absurd e0 hm
          · exact ⟨h0,L',o',cap',k⟩
        have ho':o' = L'.sh+off':=by rcases hcap' with ⟨k,_⟩ | ⟨k,_⟩;exact k;omega
        subst ho'
        obtain ⟨hnl,vs,rn,hcells⟩:=lds_cells H hnew hL'
        have hvl:vs.length=len' * i.size:=by rw [← rn.len,hnl,hse]
        have grow:∀ (s:Option Addr) (cap:Nat) (olds:List Value) (ocs:List Cell) (dead:Nat→Bool),a.eval y1 = .slice s len cap→R2 (CRel φ) ocs olds→olds.length=len*i.size→(s=none→len=0) →
            (∀ p,s=some p→∀ j v,olds[j]? = some v→w.cell? (p.add j)=some v)→cap<len+len'→r.1=G.next→r.2.1=0→(∀ j,r.2.2.get j=if j=G.next then some (.row (ocs++new) false) else if dead j then none else G.get j)→r.2.2.next=G.next+1 →
            ActOk P base φ β a w o G r.2.2 (.c (.sl es r.1 r.2.1 (len+len'))):=by
          intro s cap olds ocs dead hv ro hol hn holds hcap hr1 hr2 hget hnx
          have hrun:=app_grow (P:=P) (w:=w) (ty:=o.type) hu hu' hi hz hol hn holds hvl hcells hcap hmost hbytes (c:=cap')
          rw [← hv,← hv'] at hrun
          have hfn:φ G.next=none:=hf _ (Nat.le_refl _) (by omega)
          have hge:=grownCap_ge w (len+len') cap e
          have hN:(olds.toArray++vs.toArray++Builtin.zeroCells z.cells (grownCap w (len+len') cap e-(len+len'))).size=grownCap w (len+len') cap e*es:=by
            simp only [Array.size_append,List.size_toArray,size_zeroCells,hol,hvl,hse,hzs]
            have:grownCap w (len+len') cap e=len+len' + (grownCap w (len+len') cap e-(len+len')):=by omega
            generalize grownCap w (len+len') cap e-(len+len')=d at this
            rw [this,Nat.add_mul,Nat.add_mul]
          refine ActOk.value (φ':=φ.put G.next ⟨w.heap.size,0,grownCap w (len+len') cap e*es⟩) (hexec _ _ hrun) ?_ ?_
          · refine good_fresh (dead:=dead) H hw hfn hget hnx ?_ (.inl (Nat.le_refl _)) (by simp) (fun b hb _=>heap_alloc_old w.drew _ b hb) rfl rfl rfl
            have le:=Phi.le_put (φ:=φ) (id:=G.next) ⟨w.heap.size,0,grownCap w (len+len') cap e*es⟩ hfn
            have ra:=ro.append rn
            refine ⟨_,e,(0,0),heap_alloc_new w.drew _,?_,by rw [hN];exact Nat.le_refl _,fun k x hx=>?_,fun _=>⟨rfl,hb⟩,fun h=>by cases h⟩
            · simp only [Nat.zero_add]
              have:=ra.len;simp only [List.length_append] at this ⊢
              rw [this,hol,hvl,hse,← Nat.add_mul];exact Nat.mul_le_mul_right _ hge
            · obtain ⟨v,hv,rv⟩:=ra.get k x hx
              refine ⟨v,?_,rv.mono le⟩
              rw [Nat.zero_add,Array.getElem?_append_left (by have:=(List.getElem?_eq_some_iff.1 hv).1;simpa using this)]
              simpa using hv
          · rw [hr1,hr2]
            exact .inr ⟨by have:=hw.2;omega,_,0,_,Phi.put_self _ _ _,rfl,hge,.inl ⟨by simp,by simp⟩⟩
        unfold GH.app at hrr
        rw [if_neg hm] at hrr
        by_cases hid:id=0
        · -- onto nothing
          rw [if_pos hid] at hrr
          simp at hrr;subst hrr
          subst hid
          obtain ⟨_,hl0,hv⟩:off=0∧len=0∧a.eval y1 = .slice none 0 0:=by
            rcases ex with ⟨_,k1,k2,k3⟩ | ⟨k,_⟩
            · exact ⟨k1,k2,k3⟩
            · exact absurd rfl k
          subst hl0
          exact grow none 0 [] [] (fun _=>false) hv R2.nil (by simp) (fun _=>rfl) (fun p h=>by cases h) (by omega) rfl rfl (fun j=>by rw [GH.get_alloc];simp) rfl
        · rw [if_neg hid] at hrr
          obtain ⟨cs,hcs,hrr⟩:=Option.bind_eq_some_iff.1 hrr
          have hget:=own_row hcs
          obtain ⟨_,L,o1,cap,hL,hv,hle,hcap⟩:∃ (h0:id≠0) (L:Loc) (o1 cap:Nat),φ id=some L∧a.eval y1 = .slice (some ⟨L.blk,o1,none⟩) len cap∧len≤cap∧((o1=L.sh+off∧o1+cap*es=L.lim)∨(cap=0∧L.sh+off=L.lim)):=by
            rcases ex with ⟨k,_⟩ | k
            · exact absurd k hid
            · obtain ⟨k0,L,o1,cap,k⟩:=k;exact ⟨k0,L,o1,cap,k⟩
          obtain ⟨cur,te,hh,a1,a2,a3,a4⟩:=row_cells H hget hL
          by_cases hfull:off+len*es=cs.length
          · rw [if_pos hfull] at hrr
            simp at hrr;subst hrr
            have hgm:∀ j,((G.set id none).alloc (.row (cs.drop off++new) false)).get j=if j=G.next then some (.row (cs.drop off++new) false) else if Nat.beq j id then none else G.get j:=fun j=>by
              rw [GH.get_alloc,GH.next_set,GH.get_set]
              split
              · rfl
              · cases hb:Nat.beq j id with
                | true=>rw [Nat.beq_eq] at hb;simp [hb]
                | false =>
                  have:j≠id:=fun e=>by subst e;simp at hb
                  simp [this]
            by_cases hroom:len+len'≤cap
            · -- in its own room
              have ho1:o1=L.sh+off∧o1+cap*es=L.lim:=by rcases hcap with k | ⟨k,_⟩;exact k;omega
              obtain ⟨rfl,hlim⟩:=ho1
              have hcm:(len+len')*es≤cap*es:=Nat.mul_le_mul_right _ hroom
              rw [Nat.add_mul] at hcm
              have hrun:=app_room (P:=P) (w:=w) (ty:=o.type) (sLen:=len) (sCap:=cap) (off:=L.sh+off) hu hu' hi hh hvl hcells rn.one hroom (by rw [hvl,hse];omega) (c:=cap')
              rw [← hv,← hv'] at hrun
              have hfn:φ G.next=none:=hf _ (Nat.le_refl _) (by rw [GH.next_alloc,GH.next_set];omega)
              refine ActOk.value (φ':=φ.put G.next ⟨L.blk,L.sh+off,L.lim⟩) (hexec _ _ hrun) ?_ ?_
              · have le:=Phi.le_put (φ:=φ) (id:=G.next) ⟨L.blk,L.sh+off,L.lim⟩ hfn
                refine good_fresh (dead:=fun j=>Nat.beq j id) H hw hfn hgm rfl ?_ (.inr ⟨id,_,L,by simp,hget,rfl,hL,rfl⟩) (by simp) (fun b _ hb=>setRow_keep _ _ _ _ hb) rfl rfl rfl
                have hdl:(cs.drop off).length=len*es:=by simp;omega
                refine ⟨_,te,(0,0),setRow_heap w L.blk cur _ te _ hh,?_,?_,fun k x hx=>?_,fun _=>⟨rfl,a4⟩,fun h=>by cases h⟩
                · simp only [List.length_append,hdl,hnl];omega
                · simp only [List.size_toArray,List.length_append,List.length_take,List.length_drop,Array.length_toList,hse,hvl];omega
                · have ec:cs.drop off++new=(splice cs (off+len*es) new).drop off:=by
                    simp only [splice]
                    rw [hfull,List.take_length,List.drop_eq_nil_of_le (by omega:cs.length≤cs.length+new.length),List.append_nil,List.drop_append_of_le_length (by omega)]
                  rw [ec,List.getElem?_drop] at hx
                  obtain ⟨v,hv,rv⟩:=splice_rel (L:=L) (c:=cur) a3 rn (by rw [hnl];omega) (by omega) _ x hx
                  refine ⟨v,?_,rv.mono le⟩
                  rw [← hv,hse]
                  simp only [Nat.add_assoc]
              · exact .inr ⟨by have:=hw.2;omega,_,L.sh+off,cap,Phi.put_self _ _ _,rfl,hroom,.inl ⟨by simp,hlim⟩⟩
            · -- in a new block
              refine grow _ cap ((cur.toList.drop (L.sh+off)).take (len*es)) (cs.drop off) (fun j=>Nat.beq j id) hv ⟨by simp;omega,fun k x hx=>?_⟩ (by rw [hse];simp;omega) (fun h=>by cases h) (fun p hp j v hj=>?_) (by omega) rfl rfl hgm rfl
              · rw [List.getElem?_drop] at hx
                obtain ⟨v,hv,rv⟩:=a3 _ x hx
                have hk:=(List.getElem?_eq_some_iff.1 hx).1
                refine ⟨v,?_,rv⟩
                rw [List.getElem?_take,if_pos (by omega),List.getElem?_drop,Nat.add_assoc]
                simpa using hv
              · simp at hp;subst hp
                rw [List.getElem?_take] at hj
                split at hj
                · rename_i hjl
                  rw [List.getElem?_drop] at hj
                  have ho1:o1=L.sh+off:=by
                    rcases hcap with ⟨k,_⟩ | ⟨k,_⟩
                    · exact k
                    · have:len=0:=by omega
                      subst this;simp at hjl
                  subst ho1
                  rw [addr_add]
                  simp [World.cell?,hh];simpa using hj
                · cases hj
          · rw [if_neg hfull] at hrr
            split at hrr
            · rename_i hfit
              simp at hrr;subst hrr
              rw [hnl] at hfit
              have hpos:0<es:=Nat.pos_of_ne_zero h0
              have ho1:o1=L.sh+off∧o1+cap*es=L.lim:=by
                rcases hcap with k | ⟨k1,k2⟩
                · exact k
                · exfalso
                  have:0<len' * es:=Nat.mul_pos (Nat.pos_of_ne_zero hm) hpos
                  omega
              obtain ⟨rfl,hlim⟩:=ho1
              have hroom:len+len'≤cap:=by
                have:(len+len')*es≤cap*es:=by rw [Nat.add_mul];omega
                exact Nat.le_of_mul_le_mul_right this hpos
              have hrun:=app_room (P:=P) (w:=w) (ty:=o.type) (sLen:=len) (sCap:=cap) (off:=L.sh+off) hu hu' hi hh hvl hcells rn.one hroom (by rw [hvl,hse];omega) (c:=cap')
              rw [← hv,← hv'] at hrun
              refine ActOk.value (φ':=φ) (hexec _ _ hrun) ?_ ?_
              · have hspl:(splice cs (off+len*es) new).length=cs.length:=by simp [splice];omega
                refine good_put H hw hget rfl hL rfl ?_ (size_setRow _ _ _) (fun b hb=>setRow_keep _ _ _ _ hb) rfl rfl rfl
                refine ⟨_,te,(0,0),setRow_heap w L.blk cur _ te _ hh,by rw [hspl];exact a1,?_,?_,fun _=>⟨rfl,a4⟩,fun h=>by cases h⟩
                · simp only [List.size_toArray,List.length_append,List.length_take,List.length_drop,Array.length_toList,hse,hvl];omega
                · intro k x hx
                  obtain ⟨v,hv,rv⟩:=splice_rel (L:=L) (c:=cur) a3 rn (by rw [hnl];omega) (by omega) _ x hx
                  refine ⟨v,?_,rv⟩
                  rw [← hv,hse]
                  simp only [Nat.add_assoc]
              · exact .inr ⟨hid,_,L.sh+off,cap,hL,rfl,hroom,.inl ⟨rfl,hlim⟩⟩
            · cases hrr
    · cases hty
  · cases hk
end
end Go.Proofs.D
/- Structs compared;maps;calls. -/
set_option linter.unusedVariables false
namespace Go.Proofs.D
open Go
section
variable {P:Program} {nr base:Nat} {φ:Phi} {β:Nat→Nat} {a:Act} {w:World} {tm:TM} {C:Call} {G G':GH} {o:Oper}

theorem fieldSh_part {f:Field} {s:Sh} {i:Nat} (h:fieldSh P f s i=true) (xs:Array Value) (v:Value) (hv:xs[i]? = some v):f.name≠ "_"∧(part f.type xs f.offset).run P w = .ok v w:=by
  unfold fieldSh at h
  simp only [Bool.and_eq_true,decide_eq_true_eq,Nat.beq_eq] at h
  obtain ⟨⟨h1,h2⟩,h3⟩:=h
  refine ⟨h1,?_⟩
  rw [h2]
  split at h3
  · rename_i hu;simp [part,isAgg,run_underlying hu,hv]
  · rename_i hu;simp [part,isAgg,run_underlying hu,hv]
  · cases h3
theorem cellEq_run {f:Field} {s:Sh} {i:Nat} (h:fieldSh P f s i=true) {x y:Cell} {u v:Value} {b:Bool} (hb:cellEq s x y=some b) (rx:CRel φ x u) (ry:CRel φ y v) (d:Nat):(Op.equalIn (d+1) f.type u v).run P w = .ok b w:=by
  unfold fieldSh at h
  simp only [Bool.and_eq_true] at h
  obtain ⟨_,h3⟩:=h
  split at h3
  · rename_i k k' hu
    unfold cellEq at hb
    split at hb
    · split at hb
      · rename_i e;subst e
        simp at hb;subst hb
        cases rx;cases ry
        rw [run_equalIn_int w d f.type _ _ _ _ hu];rfl
      · cases hb
    · rename_i h2;cases h2
    · cases hb
  · rename_i hu
    unfold cellEq at hb
    split at hb
    · rename_i h2;cases h2
    · simp at hb;subst hb
      cases rx;cases ry
      exact run_equalIn_bool' w d f.type _ _ hu
    · cases hb
  · cases h3
theorem eqFields_run (d:Nat) (xs ys:Array Value):∀ (fs:List Field) (ss:List Sh) (i:Nat) (cs ds:List Cell) (b:Bool),fieldsSh P fs ss i=true→cellsEq ss cs ds=some b →
    (∀ j x,cs[j]? = some x→∃ v,xs[i+j]? = some v∧CRel φ x v)→(∀ j x,ds[j]? = some x→∃ v,ys[i+j]? = some v∧CRel φ x v)→(Op.eqFields (d+1) xs ys fs).run P w = .ok b w
  | [],[],i,cs,ds,b,_,hb,_,_=>by
    cases cs <;> cases ds <;> simp [cellsEq] at hb
    subst hb;simp [Op.eqFields]
  | f::fs,s::ss,i,cs,ds,b,hf,hb,hx,hy=>by
    simp only [fieldsSh,Bool.and_eq_true] at hf
    cases cs with
    | nil=>cases ds <;> simp [cellsEq] at hb
    | cons c cs =>
      cases ds with
      | nil=>simp [cellsEq] at hb
      | cons e ds =>
        simp only [cellsEq] at hb
        obtain ⟨b1,h1,hb⟩:=Option.bind_eq_some_iff.1 hb
        obtain ⟨b2,h2,hb⟩:=Option.bind_eq_some_iff.1 hb
        simp at hb;subst hb
        obtain ⟨u,hu,ru⟩:=hx 0 c (by simp)
        obtain ⟨v,hv,rv⟩:=hy 0 e (by simp)
        obtain ⟨hn,p1⟩:=fieldSh_part (P:=P) (w:=w) hf.1 xs u (by simpa using hu)
        obtain ⟨_,p2⟩:=fieldSh_part (P:=P) (w:=w) hf.1 ys v (by simpa using hv)
        have ih:=eqFields_run d xs ys fs ss (i+1) cs ds b2 hf.2 h2 (fun j x h=>by obtain ⟨v,hv,r⟩:=hx (j+1) x (by simpa using h);exact ⟨v,by rw [← hv];congr 1;omega,r⟩)
          (fun j x h=>by obtain ⟨v,hv,r⟩:=hy (j+1) x (by simpa using h);exact ⟨v,by rw [← hv];congr 1;omega,r⟩)
        simp only [Op.eqFields,ne_eq,hn,not_false_eq_true,if_true,Sem.run_bind,p1,p2,Result.andThen_ok,cellEq_run hf.1 h1 ru rv d]
        cases b1
        · simp
        · simp [ih]
  | [],_::_,_,_,_,_,h,_,_,_=>by simp [fieldsSh] at h
  | _::_,[],_,_,_,_,h,_,_,_=>by simp [fieldsSh] at h
theorem equal_struct {t:TypeId} {fs:Array Field} {ss:List Sh} {cs ds:List Cell} {xs ys:Array Value} {b:Bool} (hu:P.underlying t=some (.struct fs)) (hf:fieldsSh P fs.toList ss 0=true) (hs:P.stoodInHeld t=false)
    (hb:cellsEq ss cs ds=some b) (rx:R2 (CRel φ) cs xs.toList) (ry:R2 (CRel φ) ds ys.toList):(Op.equal t (.agg xs) (.agg ys)).run P w = .ok b w:=by
  have hfo:P.fieldsOf t=fs:=by simp [Program.fieldsOf,hu]
  unfold Op.equal Op.maxDepth
  rw [run_equalIn_struct w 9999 t xs ys (by rw [hfo];exact hu) hs,hfo]
  exact eqFields_run 9998 xs ys fs.toList ss 0 cs ds b hf hb (fun j x h=>by obtain ⟨v,hv,r⟩:=rx.get j x h;exact ⟨v,by simpa using hv,r⟩) (fun j x h=>by obtain ⟨v,hv,r⟩:=ry.get j x h;exact ⟨v,by simpa using hv,r⟩)
theorem sound_aeq {neg:Bool} {ss:List Sh} {x y:Src} {u:TV} (hk:okOp P nr o (.aeq neg ss x y)=true) (h:opD C tm G (.aeq neg ss x y)=some (u,G')) (hr:∀ n∈(DOp.aeq neg ss x y).rd,Rd φ β a tm n):PureOk P φ β a w o G G' u:=by
  simp only [opD,opK] at h
  obtain ⟨p,hp,h⟩:=Option.bind_eq_some_iff.1 h
  obtain ⟨q,hq,h⟩:=Option.bind_eq_some_iff.1 h
  obtain ⟨b,hb,h⟩:=Option.bind_eq_some_iff.1 h
  simp at h;obtain ⟨rfl,rfl⟩:=h
  simp only [okOp] at hk
  split at hk
  · rename_i bo t x' y' t' ho
    simp only [Bool.and_eq_true,Bool.not_eq_true'] at hk
    obtain ⟨⟨⟨⟨⟨hn,hx⟩,hy⟩,hf⟩,hs⟩,hg⟩:=hk
    obtain ⟨xs,ex,rx⟩:=src_agg (a:=a) (φ:=φ) hx hp fun n hn=>hr n (mem_l hn)
    obtain ⟨ys,ey,ry⟩:=src_agg (a:=a) (φ:=φ) hy hq fun n hn=>hr n (mem_r hn)
    split at hf
    · rename_i fs hu
      have he:=equal_struct (w:=w) hu hf hs hb rx ry
      refine ⟨rfl,.bool (Bool.xor neg b),?_,rfl⟩
      have hgd:=run_eqGuard_agg (P:=P) w bo t x' y' xs ys hg
      simp only [execOp,ho,ex,ey,Sem.run_bind,hgd,Result.andThen_ok]
      rcases okNeg_cases hn with ⟨rfl,rfl⟩ | ⟨rfl,rfl⟩ <;> simp [binOp,he]
    · cases hf
  · cases hk
theorem shOk_eq:∀ {ss:List Sh} {cs ds:List Cell},shOk ss cs=true→shOk ss ds=true→cellsEq ss cs ds=some (decide (cs=ds))
  | [],[],[],_,_=>by simp [cellsEq]
  | .int k::ss,.int k1 n::cs,.int k2 m::ds,h1,h2=>by
    simp only [shOk,Bool.and_eq_true,decide_eq_true_eq] at h1 h2
    obtain ⟨rfl,h1⟩:=h1
    obtain ⟨rfl,h2⟩:=h2
    simp only [cellsEq,cellEq,if_true,Option.bind_some,shOk_eq h1 h2,Option.some.injEq]
    by_cases e:n=m <;> by_cases f:cs=ds <;> simp [e,f]
  | [],[],_::_,_,h=>by simp [shOk] at h
  | [],_::_,_,h,_=>by simp [shOk] at h
  | _::_,[],_,h,_=>by cases ‹Sh› <;> simp [shOk] at h
  | .bool::_,_::_,_,h,_=>by simp [shOk] at h
  | .ptr::_,_::_,_,h,_=>by simp [shOk] at h
  | .sl _::_,_::_,_,h,_=>by simp [shOk] at h
  | .map::_,_::_,_,h,_=>by simp [shOk] at h
  | .fn::_,_::_,_,h,_=>by simp [shOk] at h
  | .str::_,_::_,_,h,_=>by simp [shOk] at h
  | .int k::ss,.int k1 n::cs,[],_,h=>by simp [shOk] at h
  | .int k::ss,.int k1 n::cs,.bool _::ds,_,h=>by simp [shOk] at h
  | .int k::ss,.int k1 n::cs,.ptr _ _::ds,_,h=>by simp [shOk] at h
  | .int k::ss,.int k1 n::cs,.sl _ _ _ _::ds,_,h=>by simp [shOk] at h
  | .int k::ss,.int k1 n::cs,.map _::ds,_,h=>by simp [shOk] at h
  | .int k::ss,.int k1 n::cs,.fn _::ds,_,h=>by simp [shOk] at h
  | .int k::ss,.int k1 n::cs,.str _::ds,_,h=>by simp [shOk] at h
  | .int k::ss,.bool _::cs,_,h,_=>by simp [shOk] at h
  | .int k::ss,.ptr _ _::cs,_,h,_=>by simp [shOk] at h
  | .int k::ss,.sl _ _ _ _::cs,_,h,_=>by simp [shOk] at h
  | .int k::ss,.map _::cs,_,h,_=>by simp [shOk] at h
  | .int k::ss,.fn _::cs,_,h,_=>by simp [shOk] at h
  | .int k::ss,.str _::cs,_,h,_=>by simp [shOk] at h
theorem key_equal {t:TypeId} {ks:VS} {x y:V1} {u v:Value} (hp:plainKey P t ks=true) (hx:keyOk ks x=true) (hy:keyOk ks y=true) (rx:V1Rel φ x u) (ry:V1Rel φ y v):(Op.equal t u v).run P w = .ok (decide (x=y)) w:=by
  unfold plainKey at hp
  split at hp
  · rename_i k k' hu
    cases x <;> simp only [keyOk] at hx <;> try (cases hx;done)
    cases y <;> simp only [keyOk] at hy <;> try (cases hy;done)
    rename_i c e
    cases c <;> simp [shOk] at hx
    cases e <;> simp [shOk] at hy
    subst hx;subst hy
    cases rx;cases ry
    unfold Op.equal Op.maxDepth
    rw [run_equalIn_int w 9999 t _ _ _ _ hu]
    simp;rfl
  · rename_i fs ss hu
    simp only [Bool.and_eq_true,Bool.not_eq_true'] at hp
    cases x <;> simp only [keyOk] at hx <;> try (cases hx;done)
    cases y <;> simp only [keyOk] at hy <;> try (cases hy;done)
    obtain ⟨xs,rfl,rx⟩:=rx
    obtain ⟨ys,rfl,ry⟩:=ry
    rw [equal_struct hu hp.1.1 hp.2 (shOk_eq hx hy) rx ry]
    simp
  · cases hp
theorem checkKey_run {t:TypeId} {ks:VS} {x:V1} {u:Value} (hp:plainKey P t ks=true) (hx:keyOk ks x=true) (rx:V1Rel φ x u) (b:Bool):(Instr.checkKey b 10000 t u).run P w = .ok () w:=by
  unfold plainKey at hp
  split at hp
  · rename_i k k' hu
    cases x <;> simp only [keyOk] at hx <;> try (cases hx;done)
    rename_i c
    cases c <;> simp [shOk] at hx
    cases rx
    rw [Instr.checkKey]
    simp [run_underlying hu]
  · rename_i fs ss hu
    simp only [Bool.and_eq_true,Bool.not_eq_true'] at hp
    cases x <;> simp only [keyOk] at hx <;> try (cases hx;done)
    rename_i cs
    obtain ⟨xs,rfl,rx⟩:=rx
    rw [Instr.checkKey]
    simp only [Sem.run_bind,run_underlying hu,Result.andThen_ok]
    rw [← Array.forIn_toList]
    have hall:=hp.1.2
    have hfs:=hp.1.1
    clear hp hu
    have gen:∀ (fs:List Field) (ss:List Sh) (i:Nat) (cs:List Cell),fieldsSh P fs ss i=true→allInt ss=true→shOk ss cs=true→(∀ j x,cs[j]? = some x→∃ v,xs[i+j]? = some v∧CRel φ x v) →
        (forIn fs PUnit.unit fun f (_:PUnit)=>if f.name≠ "_" then (do Instr.checkKey b 9999 f.type (← part f.type xs f.offset);pure (ForInStep.yield PUnit.unit)) else (pure (ForInStep.yield PUnit.unit):Sem (ForInStep PUnit))).run P w = .ok PUnit.unit w:=by
      intro fs
      induction fs with
      | nil=>intro ss i cs _ _ _ _;simp
      | cons f fs ih =>
        intro ss i cs hf ha hs hc
        cases ss with
        | nil=>simp [fieldsSh] at hf
        | cons s ss =>
          simp only [fieldsSh,Bool.and_eq_true] at hf
          cases cs with
          | nil=>cases s <;> simp [shOk] at hs
          | cons c cs =>
            obtain ⟨v,hv,rv⟩:=hc 0 c (by simp)
            obtain ⟨hn,hpart⟩:=fieldSh_part (P:=P) (w:=w) hf.1 xs v (by simpa using hv)
            cases s <;> simp only [allInt] at ha <;> try (cases ha;done)
            cases c <;> simp [shOk] at hs
            cases rv
            have hu:∃ k,P.underlying f.type=some (.int k):=by
              have:=hf.1;unfold fieldSh at this;simp only [Bool.and_eq_true] at this
              have:=this.2
              split at this
              · exact ⟨_,‹_›⟩
              · rename_i h;cases h
              · cases this
            obtain ⟨k,hu⟩:=hu
            have hck:∀ (n:Int) (q:IntKind),(Instr.checkKey b 9999 f.type (.int q n)).run P w = .ok () w:=fun n q=>by rw [Instr.checkKey];simp [run_underlying hu]
            have:=ih ss (i+1) cs hf.2 ha hs.2 fun j x h=>by obtain ⟨v,hv,r⟩:=hc (j+1) x (by simpa using h);exact ⟨v,by rw [← hv];congr 1;omega,r⟩
            simp only [List.forIn_cons,ne_eq,hn,not_false_eq_true,if_true,Sem.run_bind,hpart,Result.andThen_ok,hck,Sem.run_pure]
            simpa using this
    have:=gen fs.toList ss 0 cs hfs hall hx fun j x h=>by obtain ⟨v,hv,r⟩:=rx.get j x h;exact ⟨v,by simpa using hv,r⟩
    simp at this ⊢
    rw [this];rfl
  · cases hp
end
end Go.Proofs.D
/- Maps. -/
set_option linter.unusedVariables false
namespace Go.Proofs.D
open Go
def idxOf (key:V1):List (V1×V1)→Option Nat
  | []=>none
  | (a,_)::es=>if a=key then some 0 else (idxOf key es).map (· + 1)
theorem idxOf_some {key:V1}:∀ {es:List (V1×V1)} {j:Nat},idxOf key es=some j→∃ b,es[j]? = some (key,b)∧mapGet es key=some b∧(∀ x,mapPut es key x=es.set j (key,x))∧mapDel es key=es.eraseIdx j
  | [],_,h=>by simp [idxOf] at h
  | (a,b)::es,j,h=>by
    simp only [idxOf] at h
    split at h
    · rename_i e;simp at h;subst h;subst e
      exact ⟨b,rfl,by simp [mapGet],fun x=>by simp [mapPut],by simp [mapDel]⟩
    · rename_i e
      simp at h
      obtain ⟨i,hi,rfl⟩:=h
      obtain ⟨c,h1,h2,h3,h4⟩:=idxOf_some hi
      exact ⟨c,by simpa using h1,by simp [mapGet,e,h2],fun x=>by simp [mapPut,e,h3 x],by simp [mapDel,e,h4]⟩
theorem idxOf_none {key:V1}:∀ {es:List (V1×V1)},idxOf key es=none→mapGet es key=none∧(∀ x,mapPut es key x=es++[(key,x)])∧mapDel es key=es
  | [],_=>⟨rfl,fun _=>rfl,rfl⟩
  | (a,b)::es,h=>by
    simp only [idxOf] at h
    split at h
    · cases h
    · rename_i e
      simp at h
      obtain ⟨h2,h3,h4⟩:=idxOf_none h
      exact ⟨by simp [mapGet,e,h2],fun x=>by simp [mapPut,e,h3 x],by simp [mapDel,e,h4]⟩
section
variable {P:Program} {nr base:Nat} {φ:Phi} {β:Nat→Nat} {a:Act} {w:World} {tm:TM} {C:Call} {G G':GH} {o:Oper}
def found (r:Option Nat) (ents:List MapEntry) (i:Nat):Option (Nat×Value):=r.bind fun j=>(ents[j]?).map fun e=>(i+j,e.val)
theorem found_succ (r:Option Nat) (e:MapEntry) (ents:List MapEntry) (i:Nat):found (r.map (· + 1)) (e::ents) i=found r ents (i+1):=by
  cases r with
  | none=>rfl
  | some j=>simp [found];cases ents[j]? <;> simp;omega
theorem findNow_run {k:IntKind} {n:Int} (q:IntKind):∀ (es:List (V1×V1)) (ents:List MapEntry) (i:Nat),R2 (ERel φ) es ents→(∀ p∈es,keyOk (.c (.int k)) p.1=true) →
    Instr.findNow (.int q) (.int k n) ents i=some (found (idxOf (.c (.int k n)) es) ents i)
  | [],ents,i,r,_=>by rw [r.nil_inv];rfl
  | (x,y)::es,ents,i,r,hk=>by
    obtain ⟨e,ents,rfl,⟨re,_⟩,r'⟩:=r.uncons
    have hx:=hk (x,y) (by simp)
    cases x with
    | agg=>simp [keyOk] at hx
    | c c =>
      cases c with
      | int k' m =>
        simp [keyOk,shOk] at hx
        subst hx
        simp only [V1Rel,CRel] at re
        simp only [Instr.findNow,re,Instr.sameNow,if_true,idxOf]
        by_cases hmn:m=n
        · subst hmn;simp [found]
        · have:(n == m)=false:=by simp;exact fun h=>hmn h.symm
          simp only [this,V1.c.injEq,Cell.int.injEq,hmn,and_false,if_false]
          rw [findNow_run q es ents (i+1) r' fun p hp=>hk p (by simp [hp]),found_succ]
      | _=>simp [keyOk,shOk] at hx
theorem findAsking_run {kt:TypeId} {ks:VS} {key:V1} {u:Value} (hp:plainKey P kt ks=true) (hx:keyOk ks key=true) (rk:V1Rel φ key u):∀ (es:List (V1×V1)) (ents:List MapEntry) (i:Nat),R2 (ERel φ) es ents→(∀ p∈es,keyOk ks p.1=true) →
    (Instr.findAsking kt u ents i).run P w = .ok (found (idxOf key es) ents i) w
  | [],ents,i,r,_=>by rw [r.nil_inv];simp [Instr.findAsking,idxOf,found]
  | (x,y)::es,ents,i,r,hk=>by
    obtain ⟨e,ents,rfl,⟨re,_⟩,r⟩:=r.uncons
    have he:=key_equal (w:=w) hp hx (hk (x,y) (by simp)) rk re
    simp only [Instr.findAsking,Sem.run_bind,he,Result.andThen_ok,idxOf]
    by_cases e':x=key
    · subst e';simp [found]
    · have:¬ key=x:=fun h=>e' h.symm
      simp only [this,decide_false,Bool.false_eq_true,if_false,e',found_succ]
      exact findAsking_run hp hx rk es ents (i+1) r fun p hp=>hk p (by simp [hp])
theorem findKey_run {kt:TypeId} {ks:VS} {key:V1} {u:Value} (hp:plainKey P kt ks=true) (hx:keyOk ks key=true) (rk:V1Rel φ key u) {es:List (V1×V1)} {ents:List MapEntry} (r:R2 (ERel φ) es ents) (hk:∀ p∈es,keyOk ks p.1=true) :
    (Instr.findKey kt u ents).run P w = .ok (found (idxOf key es) ents 0) w:=by
  have hask:=findAsking_run (w:=w) hp hx rk es ents 0 r hk
  unfold plainKey at hp
  split at hp
  · rename_i k k' hu
    cases key with
    | agg=>simp [keyOk] at hx
    | c c =>
      cases c <;> simp [keyOk,shOk] at hx
      subst hx
      simp only [V1Rel,CRel] at rk;subst rk
      unfold Instr.findKey
      simp only [Sem.run_bind,run_underlying hu,Result.andThen_ok,findNow_run k es ents 0 r hk]
      rfl
  · rename_i fs ss hu
    unfold Instr.findKey
    simp only [Sem.run_bind,run_underlying hu,Result.andThen_ok]
    cases es with
    | nil=>rw [r.nil_inv];rfl
    | cons p es =>
      obtain ⟨e,ents',rfl,_,_⟩:=r.uncons
      have:Instr.findNow (.struct fs) u (e::ents') 0=none:=by
        obtain ⟨arr,rfl,_⟩:∃ arr,u = .agg arr∧True:=by
          cases key with
          | c c=>simp [keyOk] at hx
          | agg cs=>obtain ⟨arr,h,_⟩:=rk;exact ⟨arr,h,trivial⟩
        simp [Instr.findNow,Instr.sameNow]
      rw [this]
      exact hask
  · cases hp
theorem ents_map {ks:VS} {id:Nat} {es:List (V1×V1)} (h:G.ents ks id=some es):G.get id=some (.map ks es):=by
  unfold GH.ents at h;split at h
  · rename_i ks' es' hg
    split at h
    · rename_i e;simp at h;subst h;subst e;exact hg
    · cases h
  · cases h
theorem map_cells {ks:VS} {id:Nat} {es:List (V1×V1)} {L:Loc} (H:Look base φ G w) (hid:G.get id=some (.map ks es)) (hL:φ id=some L) :
    ∃ ents clock,w.heap[L.blk]? = some (.map ents clock)∧base≤L.blk∧R2 (ERel φ) es ents.toList∧∀ p∈es,keyOk ks p.1=true:=by
  exact H _ _ _ hid hL
theorem run_getObj_map {r:Nat} {ents:Array MapEntry} {clock:Nat} (h:w.heap[r]? = some (.map ents clock)):(getObj r).run P w = .ok (.map ents clock) w:=by
  simp only [getObj,Sem.run,h]
theorem run_setObj_map {r:Nat} {ents ents':Array MapEntry} {clock c':Nat} (h:w.heap[r]? = some (.map ents clock)):(setObj r (.map ents' c')).run P w = .ok () { w with heap:=w.heap.setIfInBounds r (.map ents' c') }:=by
  simp only [setObj,Sem.run,h]
theorem tZeroV_info {t:TypeId} {x:V1} (h:tZeroV P t x=true):∃ i z,P.info? t=some i∧i.zero=some z∧okV z x=true:=by
  unfold tZeroV at h;split at h
  · rename_i i hi
    split at h
    · rename_i z hz;exact ⟨i,z,hi,hz,h⟩
    · cases h
  · cases h
theorem sound_lkup {ks:VS} {m key:Src} {zero:V1} {s:VS} {ok:Bool} {u:TV} (hk:okOp P nr o (.lkup ks m key zero s ok)=true) (h:opD C tm G (.lkup ks m key zero s ok)=some (u,G')) (H:Look base φ G w)
    (hr:∀ n∈(DOp.lkup ks m key zero s ok).rd,Rd φ β a tm n):PureOk P φ β a w o G G' u:=by
  simp only [opD,opK] at h
  obtain ⟨mi,hm,h1⟩:=Option.bind_eq_some_iff.1 h
  obtain ⟨kv,hkv,h2⟩:=Option.bind_eq_some_iff.1 h1
  obtain ⟨hko,h3⟩:=chk_some h2
  obtain ⟨es,hes,h4⟩:=Option.bind_eq_some_iff.1 h3
  clear h h1 h2 h3
  simp only [okOp] at hk
  split at hk
  · rename_i t y z c ho
    simp only [Bool.and_eq_true] at hk
    obtain ⟨⟨⟨hy,hz⟩,hc⟩,ht⟩:=hk
    have hc:c=ok:=by simpa using hc
    subst hc
    have em:=src_map (a:=a) (φ:=φ) hy hm fun n hn=>hr n (mem_l hn)
    have rk:=src_val (a:=a) (φ:=φ) hz hkv fun n hn=>hr n (mem_r hn)
    split at ht
    · rename_i kt e hu
      simp only [Bool.and_eq_true] at ht
      obtain ⟨hpk,hzero⟩:=ht
      obtain ⟨i,zv,hi,hzv,hok⟩:=tZeroV_info hzero
      have rz:V1Rel φ zero zv:=okV_rel hok
      have hrz:(zeroValue e).run P w = .ok zv w:=by simp [zeroValue,typeInfo,hi,hzv]
      have main:∃ v,V1Rel φ ((mapGet es kv).getD zero) v∧(Instr.lookup t (a.eval y) (a.eval z) c).run P w = .ok (if c then .tuple #[v,.bool (mapGet es kv).isSome] else v) w:=by
        by_cases h0:mi=0
        · subst h0
          have hes':es=[]:=by simp [GH.ents0] at hes;exact hes
          subst hes'
          have hv:a.eval y = .map none:=by rcases em with ⟨_,hv⟩ | ⟨h,_⟩;exact hv;exact absurd rfl h
          have hck:=checkKey_run (w:=w) hpk hko rk true
          have hfk:=findKey_run (w:=w) hpk hko rk (es:=[]) (ents:=[]) R2.nil (by simp)
          refine ⟨zv,by simpa [mapGet] using rz,?_⟩
          simp [Instr.lookup,run_underlying hu,hv,hck,hfk,idxOf,found,hrz,mapGet]
        · have hes':G.ents ks mi=some es:=by simpa [GH.ents0,h0] using hes
          obtain ⟨_,L,hL,hv⟩:mi≠0∧∃ L,φ mi=some L∧a.eval y = .map (some L.blk):=by
            rcases em with ⟨h,_⟩ | k
            · exact absurd h h0
            · exact k
          obtain ⟨ents,clock,hh,_,r,hks⟩:=map_cells H (ents_map hes') hL
          have hck:=fun b=>checkKey_run (w:=w) hpk hko rk b
          have hfk:=findKey_run (w:=w) hpk hko rk r hks
          have hgo:=run_getObj_map (P:=P) hh
          cases hx:idxOf kv es with
          | none =>
            obtain ⟨hg,_⟩:=idxOf_none hx
            rw [hx] at hfk
            refine ⟨zv,by simpa [hg] using rz,?_⟩
            simp [Instr.lookup,run_underlying hu,hv,hgo,hck,hfk,found,hrz,hg]
          | some j =>
            obtain ⟨b,hb,hg,_⟩:=idxOf_some hx
            obtain ⟨en,hen,_,rv⟩:=r.get j _ hb
            rw [hx] at hfk
            refine ⟨en.val,by simpa [hg] using rv,?_⟩
            have hf:found (some j) ents.toList 0=some (j,en.val):=by unfold found;rw [Option.bind_some,hen];simp
            rw [hf] at hfk
            simp [Instr.lookup,run_underlying hu,hv,hgo,hck,hfk,hg]
      obtain ⟨v,rv,hrun⟩:=main
      have hex:(execOp a.eval o).run P w = .ok (.value (if c then .tuple #[v,.bool (mapGet es kv).isSome] else v)) w:=by simp [execOp,ho,hrun]
      cases c with
      | true =>
        obtain ⟨x,hx,h5⟩:=vsK_some h4
        simp at hx h5;obtain ⟨rfl,rfl⟩:=h5
        subst hx
        exact ⟨rfl,_,hex,_,rfl,R2.cons rv (R2.cons rfl R2.nil)⟩
      | false =>
        obtain ⟨x,hx,h5⟩:=vsK_some h4
        simp at hx h5;obtain ⟨rfl,rfl⟩:=h5
        subst hx
        exact ⟨rfl,_,hex,rv⟩
    · cases ht
  · cases hk
theorem key_unique {ks:VS} {x:V1} {u v:Value} (hx:keyOk ks x=true) (ru:V1Rel φ x u) (rv:V1Rel φ x v):u=v∧Instr.sameBits 10000 u v=true:=by
  cases ks with
  | c s =>
    cases x with
    | agg=>simp [keyOk] at hx
    | c c =>
      cases s <;> cases c <;> simp [keyOk,shOk] at hx
      cases ru;cases rv
      exact ⟨rfl,by simp [Instr.sameBits]⟩
  | agg ss =>
    cases x with
    | c=>simp [keyOk] at hx
    | agg cs =>
      simp only [keyOk] at hx
      obtain ⟨xs,rfl,rx⟩:=ru
      obtain ⟨ys,rfl,ry⟩:=rv
      have gen:∀ (ss:List Sh) (cs:List Cell) (xs ys:List Value),shOk ss cs=true→R2 (CRel φ) cs xs→R2 (CRel φ) cs ys→xs=ys∧(xs.zip ys).all (fun (p:Value×Value)=>Instr.sameBits 9999 p.1 p.2)=true:=by
        intro ss
        induction ss with
        | nil=>intro cs xs ys h rx ry;cases cs with
          | nil=>rw [rx.nil_inv,ry.nil_inv];simp
          | cons=>simp [shOk] at h
        | cons s ss ih =>
          intro cs xs ys h rx ry
          cases cs with
          | nil=>cases s <;> simp [shOk] at h
          | cons c cs =>
            obtain ⟨u,xs,rfl,ru,rx'⟩:=rx.uncons
            obtain ⟨v,ys,rfl,rv,ry'⟩:=ry.uncons
            cases s <;> cases c <;> simp [shOk] at h
            cases ru;cases rv
            obtain ⟨rfl,h2⟩:=ih cs xs ys h.2 rx' ry'
            exact ⟨rfl,by simpa [Instr.sameBits] using h2⟩
      obtain ⟨h1,h2⟩:=gen ss cs _ _ hx rx ry
      have:xs=ys:=by cases xs;cases ys;simp at h1;subst h1;rfl
      subst this
      exact ⟨rfl,by simp only [Instr.sameBits];simpa using h2⟩
theorem heap_set_other {w:World} {r k:Nat} {O:Go.Obj} (h:k≠r):({ w with heap:=w.heap.setIfInBounds r O }:World).heap[k]? = w.heap[k]?:=by
  show (w.heap.setIfInBounds r O)[k]? = _
  rw [Array.getElem?_setIfInBounds_ne (fun e=>h e.symm)]
theorem heap_set_self {w:World} {r:Nat} {O O':Go.Obj} (h:w.heap[r]? = some O'):({ w with heap:=w.heap.setIfInBounds r O }:World).heap[r]? = some O:=by
  show (w.heap.setIfInBounds r O)[r]? = _
  have:=(Array.getElem?_eq_some_iff.1 h).1
  rw [Array.getElem?_setIfInBounds_self_of_lt this]
theorem R2.set {α β:Type} {R:α→β→Prop} {xs:List α} {ys:List β} (h:R2 R xs ys) (j:Nat) {x:α} {y:β} (r:R x y):R2 R (xs.set j x) (ys.set j y):=by
  refine ⟨by simp [h.len],fun i z hz=>?_⟩
  rw [List.getElem?_set] at hz ⊢
  by_cases e:j=i
  · subst e
    simp only [if_true] at hz ⊢
    split at hz
    · rename_i hl
      simp at hz;subst hz
      exact ⟨y,by rw [if_pos (by rw [← h.len];exact hl)],r⟩
    · cases hz
  · simp only [e,if_false] at hz ⊢
    exact h.get i z hz
theorem R2.eraseIdx {α β:Type} {R:α→β→Prop} {xs:List α} {ys:List β} (h:R2 R xs ys) (j:Nat):R2 R (xs.eraseIdx j) (ys.eraseIdx j):=by
  rw [List.eraseIdx_eq_take_drop_succ,List.eraseIdx_eq_take_drop_succ]
  exact (h.take j).append (h.drop (j+1))
theorem sound_mupd {ks:VS} {m key x:Src} {u:TV} (hk:okOp P nr o (.mupd ks m key x)=true) (h:opD C tm G (.mupd ks m key x)=some (u,G')) (H:HRel base φ G.get w) (hw:G.wf)
    (hr:∀ n∈(DOp.mupd ks m key x).rd,Rd φ β a tm n):ActOk P base φ β a w o G G' u:=by
  simp only [opD,opK] at h
  obtain ⟨mi,hm,h1⟩:=Option.bind_eq_some_iff.1 h
  obtain ⟨kv,hkv,h2⟩:=Option.bind_eq_some_iff.1 h1
  obtain ⟨xv,hxv,h3⟩:=Option.bind_eq_some_iff.1 h2
  obtain ⟨hko,h4⟩:=chk_some h3
  obtain ⟨es,hes,h5⟩:=Option.bind_eq_some_iff.1 h4
  clear h h1 h2 h3 h4
  simp at h5;obtain ⟨rfl,rfl⟩:=h5
  have key:∀ (t:TypeId) (y z v:Operand),(o.op = .mapUpdate t y z v∨o.op = .insert t y z v)→okSrc nr y m=true→okSrc nr z key=true→okSrc nr v x=true→(∃ kt e,P.underlying t=some (.map kt e)∧plainKey P kt ks=true) →
      ActOk P base φ β a w o G (G.set mi (some (.map ks (mapPut es kv xv)))) .und:=by
    intro t y z v ho hy hz hv ht
    obtain ⟨kt,e,hu,hpk⟩:=ht
    have em:=src_map (a:=a) (φ:=φ) hy hm fun n hn=>hr n (mem_l (mem_l hn))
    have rk:=src_val (a:=a) (φ:=φ) hz hkv fun n hn=>hr n (mem_l (mem_r hn))
    have rx:=src_val (a:=a) (φ:=φ) hv hxv fun n hn=>hr n (mem_r hn)
    have hid:=ents_map hes
    have h0:mi≠0:=by intro e;subst e;rw [H.zero] at hid;cases hid
    obtain ⟨_,L,hL,hmv⟩:mi≠0∧∃ L,φ mi=some L∧a.eval y = .map (some L.blk):=by
      rcases em with ⟨h,_⟩ | k
      · exact absurd h h0
      · exact k
    obtain ⟨ents,clock,hh,hbase,r,hks⟩:=map_cells H.look hid hL
    have hck:=checkKey_run (w:=w) hpk hko rk false
    have hfk:=findKey_run (w:=w) hpk hko rk r hks
    have hgo:=run_getObj_map (P:=P) hh
    have main:∃ ents' c',(Instr.mapUpdate t (a.eval y) (a.eval z) (a.eval v)).run P w = .ok () { w with heap:=w.heap.setIfInBounds L.blk (.map ents' c') }∧R2 (ERel φ) (mapPut es kv xv) ents'.toList∧∀ p∈mapPut es kv xv,keyOk ks p.1=true:=by
      cases hx:idxOf kv es with
      | none =>
        obtain ⟨_,hput,_⟩:=idxOf_none hx
        rw [hx] at hfk
        refine ⟨ents.push { key:=a.eval z,val:=a.eval v,born:=clock },clock+1,by simp [Instr.mapUpdate,run_underlying hu,hmv,hgo,hck,hfk,found,run_setObj_map hh],?_,?_⟩
        · rw [hput];simp only [Array.toList_push];exact r.append (R2.cons ⟨rk,rx⟩ R2.nil)
        · rw [hput];intro p hp;simp at hp;rcases hp with hp | rfl;exact hks p hp;exact hko
      | some j =>
        obtain ⟨b,hb,_,hput,_⟩:=idxOf_some hx
        obtain ⟨en,hen,rke,rve⟩:=r.get j _ hb
        rw [hx] at hfk
        have hf:found (some j) ents.toList 0=some (j,en.val):=by unfold found;rw [Option.bind_some,hen];simp
        rw [hf] at hfk
        obtain ⟨hueq,hbits⟩:=key_unique hko rke rk
        have hen':ents[j]? = some en:=by simpa using hen
        have hbits':Instr.sameBits 10000 en.key (a.eval z)=true:=hbits
        refine ⟨ents.modify j fun e=>{ e with key:=a.eval z,val:=a.eval v },clock,?_,?_,?_⟩
        · simp [Instr.mapUpdate,run_underlying hu,hmv,hgo,hck,hfk,hen',Instr.keyThatStays,hbits',run_setObj_map hh]
        · rw [hput]
          have hj:=(Array.getElem?_eq_some_iff.1 hen').1
          have:(ents.modify j fun e=>{ e with key:=a.eval z,val:=a.eval v }).toList=ents.toList.set j { en with key:=a.eval z,val:=a.eval v }:=by
            apply List.ext_getElem?
            intro i
            rw [List.getElem?_set]
            simp only [Array.getElem?_toList,Array.getElem?_modify]
            by_cases e:j=i
            · subst e
              have hl:j<ents.toList.length:=by simpa using hj
              rw [if_pos rfl,if_pos rfl,if_pos hl,hen'];rfl
            · rw [if_neg e,if_neg e]
          rw [this]
          exact r.set j ⟨rk,rx⟩
        · rw [hput]
          intro p hp
          rcases List.mem_or_eq_of_mem_set hp with hp | rfl
          · exact hks p hp
          · exact hko
    obtain ⟨ents',c',hrun,r',hks'⟩:=main
    refine ActOk.skip (φ':=φ) (w':={ w with heap:=w.heap.setIfInBounds L.blk (.map ents' c') }) (by rcases ho with ho | ho <;> simp [execOp,ho,hrun]) ?_
    exact good_put H hw hid rfl hL rfl ⟨ents',c',heap_set_self hh,hbase,r',hks'⟩ (by simp) (fun b hb=>heap_set_other hb) rfl rfl rfl
  simp only [okOp] at hk
  split at hk
  · rename_i t y z v ho
    simp only [Bool.and_eq_true] at hk
    obtain ⟨⟨⟨hy,hz⟩,hv⟩,ht⟩:=hk
    refine key t y z v (.inl ho) hy hz hv ?_
    split at ht
    · exact ⟨_,_,‹_›,ht⟩
    · cases ht
  · rename_i t y z v ho
    simp only [Bool.and_eq_true] at hk
    obtain ⟨⟨⟨hy,hz⟩,hv⟩,ht⟩:=hk
    refine key t y z v (.inr ho) hy hz hv ?_
    split at ht
    · exact ⟨_,_,‹_›,ht⟩
    · cases ht
  · cases hk
theorem sound_del {ks:VS} {m key:Src} {u:TV} (hk:okOp P nr o (.del ks m key)=true) (h:opD C tm G (.del ks m key)=some (u,G')) (H:HRel base φ G.get w) (hw:G.wf)
    (hr:∀ n∈(DOp.del ks m key).rd,Rd φ β a tm n):ActOk P base φ β a w o G G' u:=by
  simp only [opD,opK] at h
  obtain ⟨mi,hm,h1⟩:=Option.bind_eq_some_iff.1 h
  obtain ⟨kv,hkv,h2⟩:=Option.bind_eq_some_iff.1 h1
  obtain ⟨hko,h4⟩:=chk_some h2
  obtain ⟨es,hes,h5⟩:=Option.bind_eq_some_iff.1 h4
  clear h h1 h2 h4
  simp at h5;obtain ⟨rfl,rfl⟩:=h5
  simp only [okOp] at hk
  split at hk
  · rename_i c ho
    simp only [Bool.and_eq_true] at hk
    obtain ⟨⟨hcal,hargs⟩,hty⟩:=hk
    have hc:c.callee = .builtin .delete:=by split at hcal <;> simp_all
    obtain ⟨y,z,hca,hy,hz⟩:=args2 hargs
    split at hty
    · rename_i t hat
      split at hty
      · rename_i kt e hu
        have hata:c.argTypes.toList[0]? = some t:=by simpa using hat
        have em:=src_map (a:=a) (φ:=φ) hy hm fun n hn=>hr n (mem_l hn)
        have rk:=src_val (a:=a) (φ:=φ) hz hkv fun n hn=>hr n (mem_r hn)
        have hid:=ents_map hes
        have h0:mi≠0:=by intro e;subst e;rw [H.zero] at hid;cases hid
        obtain ⟨_,L,hL,hmv⟩:mi≠0∧∃ L,φ mi=some L∧a.eval y = .map (some L.blk):=by
          rcases em with ⟨h,_⟩ | k
          · exact absurd h h0
          · exact k
        obtain ⟨ents,clock,hh,hbase,r,hks⟩:=map_cells H.look hid hL
        have hck:=fun b=>checkKey_run (w:=w) hty hko rk b
        have hfk:=findKey_run (w:=w) hty hko rk r hks
        have hgo:=run_getObj_map (P:=P) hh
        have main:∃ ents',(Builtin.delete_ c.argTypes o.type #[a.eval y,a.eval z]).run P w = .ok (.tuple #[]) { w with heap:=w.heap.setIfInBounds L.blk (.map ents' clock) }∧R2 (ERel φ) (mapDel es kv) ents'.toList∧∀ p∈mapDel es kv,keyOk ks p.1=true:=by
          cases hx:idxOf kv es with
          | none =>
            obtain ⟨_,_,hdel⟩:=idxOf_none hx
            rw [hx] at hfk
            refine ⟨ents,by simp [Builtin.delete_,hat,run_underlying hu,hmv,hgo,hck,hfk,found,run_setObj_map hh],by rw [hdel];exact r,by rw [hdel];exact hks⟩
          | some j =>
            obtain ⟨b,hb,_,_,hdel⟩:=idxOf_some hx
            obtain ⟨en,hen,rke,rve⟩:=r.get j _ hb
            rw [hx] at hfk
            have hf:found (some j) ents.toList 0=some (j,en.val):=by unfold found;rw [Option.bind_some,hen];simp
            rw [hf] at hfk
            have hen':ents[j]? = some en:=by simpa using hen
            have hj:=(Array.getElem?_eq_some_iff.1 hen').1
            refine ⟨ents.eraseIdxIfInBounds j,by simp [Builtin.delete_,hat,run_underlying hu,hmv,hgo,hck,hfk,run_setObj_map hh],?_,?_⟩
            · rw [hdel]
              have:(ents.eraseIdxIfInBounds j).toList=ents.toList.eraseIdx j:=by simp [Array.eraseIdxIfInBounds,hj]
              rw [this];exact r.eraseIdx j
            · rw [hdel];intro p hp;exact hks p (List.mem_of_mem_eraseIdx hp)
        obtain ⟨ents',hrun,r',hks'⟩:=main
        refine ActOk.value (φ':=φ) (v:=.tuple #[]) (w':={ w with heap:=w.heap.setIfInBounds L.blk (.map ents' clock) }) (by simp [execOp,ho,resolve,hc,hca,invoke,builtin,hrun]) ?_ trivial
        exact good_put H hw hid rfl hL rfl ⟨ents',clock,heap_set_self hh,hbase,r',hks'⟩ (by simp) (fun b hb=>heap_set_other hb) rfl rfl rfl
      · cases hty
    · cases hty
  · cases hk
end
end Go.Proofs.D
/- Calls. -/
set_option linter.unusedVariables false
namespace Go.Proofs.D
open Go
def SoundC (P:Program) (base:Nat) (C:Call):Prop :=
  ∀ f args G vs G',C f args G=some (vs,G')→(∃ fn,P.funcs[f]? = some fn∧fn.body≠none∧fn.name≠ "runtime.NumGoroutine"∧vs.length=fn.results.size)∧∀ φ w (argv:Array Value),HRel base φ G.get w→G.wf→base≤w.heap.size →
    (∀ id,G.next≤id→id<G'.next→φ id=none)→R2 (V1Rel φ) args argv.toList→Calls P f argv w fun e w'=>∃ φ' v,e = .returned v∧RRel φ' vs v∧Good base φ G w φ' G' w'
section
variable {P:Program} {nr base:Nat} {φ:Phi} {β:Nat→Nat} {a:Act} {w:World} {tm:TM} {C:Call} {G G':GH} {o:Oper}
theorem list_of_get {α:Type} {l m:List α} (hl:l.length=m.length) (h:∀ (j:Nat) (c:α),l[j]? = some c→m[j]? = some c):l=m:=by
  apply List.ext_getElem?
  intro i
  by_cases hi:i<l.length
  · rw [List.getElem?_eq_getElem hi,h i _ (List.getElem?_eq_getElem hi)]
  · rw [List.getElem?_eq_none (by omega),List.getElem?_eq_none (by omega)]
theorem sound_call {f:Nat} {args:List Src} {rs:List VS} {u:TV} (hC:SoundC P base C) (hk:okOp P nr o (.call f args rs)=true) (h:opD C tm G (.call f args rs)=some (u,G')) (H:HRel base φ G.get w) (hw:G.wf) (hb:base≤w.heap.size)
    (hf:∀ id,G.next≤id→id<G'.next→φ id=none) (hr:∀ n∈(DOp.call f args rs).rd,Rd φ β a tm n):ActOk P base φ β a w o G G' u:=by
  simp only [opD,opK] at h
  obtain ⟨vs,hvs,h1⟩:=Option.bind_eq_some_iff.1 h
  obtain ⟨⟨out,G2⟩,hout,h2⟩:=Option.bind_eq_some_iff.1 h1
  clear h h1
  dsimp only at h2
  simp only [okOp] at hk
  split at hk
  · rename_i c ho
    simp only [Bool.and_eq_true] at hk
    obtain ⟨⟨hcal,hargs⟩,hfn⟩:=hk
    have hc:c.callee = .value (.func f):=by
      split at hcal
      · rename_i g hg;rw [Nat.beq_eq] at hcal;subst hcal;exact hg
      · cases hcal
    split at hfn
    · rename_i fn hfs
      simp only [Bool.and_eq_true,Nat.beq_eq,Bool.not_eq_true'] at hfn
      obtain ⟨⟨hbody,hname⟩,hres⟩:=hfn
      have hargv:R2 (V1Rel φ) vs (c.args.map a.eval).toList:=by
        rw [eval_toList];exact srcs_val (φ:=φ) hargs hvs hr
      obtain ⟨⟨fn',hfs',_,_,hlen⟩,hcalls⟩:=hC _ _ _ _ _ hout
      rw [hfs] at hfs';cases hfs'
      have hval:G' = G2∧∀ φ' v,RRel φ' out v→TRel φ' β u v:=by
        split at h2
        · rename_i s
          obtain ⟨x,hx,h3⟩:=vsK_some h2
          simp at h3;obtain ⟨rfl,rfl⟩:=h3
          have:out=[x]:=by
            cases out with
            | nil=>simp at hx
            | cons y ys=>cases ys with
              | nil=>simp at hx;rw [hx]
              | cons=>simp at hlen hres;omega
          subst this
          exact ⟨rfl,fun φ' v r=>r⟩
        · rename_i rs' hne
          obtain ⟨xs,hxl,hat,h3⟩:=resK_some _ _ _ _ _ h2
          simp at h3;obtain ⟨rfl,rfl⟩:=h3
          have:xs=out:=list_of_get (by omega) fun j c hj=>by simpa using hat j c hj
          subst this
          refine ⟨rfl,fun φ' v r=>?_⟩
          unfold RRel at r
          split at r
          · rename_i x
            exfalso
            simp at hxl
            cases rs with
            | nil=>simp at hxl
            | cons s ss=>cases ss with
              | nil=>exact hne s rfl
              | cons=>simp at hxl
          · exact r
      obtain ⟨rfl,hval⟩:=hval
      have hrun:(execOp a.eval o).run P w = .ok (.enter f (c.args.map a.eval)) w:=by
        have hb':fn.body≠none:=by cases hq:fn.body <;> simp_all
        have hn':fn.name≠ "runtime.NumGoroutine":=by simpa using hname
        simp [execOp,ho,resolve,hc,Act.eval,Deferred.ofValue,invoke,callFunc,hfs,hn',hb']
      intro Q K hK
      unfold Oper.wp
      rw [hrun]
      simp only [Oper.upon]
      refine (hcalls φ w _ H hw hb hf hargv).mono fun e w' ⟨φ',v,he,hrr,hg⟩=>?_
      subst he
      exact hK φ' v w' hg (hval φ' v hrr)
    · cases hfn
  · cases hk
theorem sound_callT {x:Src} {args:List Src} {rs:List VS} {u:TV} (hC:SoundC P base C) (hk:okOp P nr o (.callT x args rs)=true) (h:opD C tm G (.callT x args rs)=some (u,G')) (H:HRel base φ G.get w) (hw:G.wf) (hb:base≤w.heap.size)
    (hf:∀ id,G.next≤id→id<G'.next→φ id=none) (hr:∀ n∈(DOp.callT x args rs).rd,Rd φ β a tm n):ActOk P base φ β a w o G G' u:=by
  simp only [opD,opK] at h
  obtain ⟨f,hf0,h0⟩:=Option.bind_eq_some_iff.1 h
  obtain ⟨vs,hvs,h1⟩:=Option.bind_eq_some_iff.1 h0
  obtain ⟨⟨out,G2⟩,hout,h2⟩:=Option.bind_eq_some_iff.1 h1
  clear h h0 h1
  dsimp only at h2
  obtain ⟨hres,h2⟩:=chk_some h2
  rw [Nat.beq_eq] at hres
  simp only [okOp] at hk
  split at hk
  · rename_i c ho
    simp only [Bool.and_eq_true] at hk
    obtain ⟨hcal,hargs⟩:=hk
    obtain ⟨y,hc,hky⟩:∃ y,c.callee = .value y∧okSrc nr y x=true:=by
      split at hcal
      · rename_i y hy;exact ⟨y,hy,hcal⟩
      · cases hcal
    have ex:a.eval y = .func (.func f) #[] #[]:=by
      obtain ⟨q,hq,hq2⟩:=Option.bind_eq_some_iff.1 hf0
      have:=asF_some hq2;subst this
      exact src_cell (a:=a) (φ:=φ) hky hq fun n hn=>hr n (by simp only [DOp.rd,List.mem_append];exact .inl hn)
    · have hargv:R2 (V1Rel φ) vs (c.args.map a.eval).toList:=by
        rw [eval_toList];exact srcs_val (φ:=φ) hargs hvs fun n hn=>hr n (by simp only [DOp.rd,List.mem_append];exact .inr hn)
      obtain ⟨⟨fn,hfs,hb',hn',hlen⟩,hcalls⟩:=hC _ _ _ _ _ hout
      have hval:G' = G2∧∀ φ' v,RRel φ' out v→TRel φ' β u v:=by
        split at h2
        · rename_i s
          obtain ⟨x,hx,h3⟩:=vsK_some h2
          simp at h3;obtain ⟨rfl,rfl⟩:=h3
          have:out=[x]:=by
            cases out with
            | nil=>simp at hx
            | cons y ys=>cases ys with
              | nil=>simp at hx;rw [hx]
              | cons=>simp at hres
          subst this
          exact ⟨rfl,fun φ' v r=>r⟩
        · rename_i rs' hne
          obtain ⟨xs,hxl,hat,h3⟩:=resK_some _ _ _ _ _ h2
          simp at h3;obtain ⟨rfl,rfl⟩:=h3
          have:xs=out:=list_of_get (by omega) fun j c hj=>by simpa using hat j c hj
          subst this
          refine ⟨rfl,fun φ' v r=>?_⟩
          unfold RRel at r
          split at r
          · rename_i x
            exfalso
            simp at hxl
            cases rs with
            | nil=>simp at hxl
            | cons s ss=>cases ss with
              | nil=>exact hne s rfl
              | cons=>simp at hxl
          · exact r
      obtain ⟨rfl,hval⟩:=hval
      have hrun:(execOp a.eval o).run P w = .ok (.enter f (c.args.map a.eval)) w:=by
        simp [execOp,ho,resolve,hc,ex,Deferred.ofValue,invoke,callFunc,hfs,hn',hb']
      intro Q K hK
      unfold Oper.wp
      rw [hrun]
      simp only [Oper.upon]
      refine (hcalls φ w _ H hw hb hf hargv).mono fun e w' ⟨φ',v,he,hrr,hg⟩=>?_
      subst he
      exact hK φ' v w' hg (hval φ' v hrr)
  · cases hk
end
end Go.Proofs.D
/- The bytes of a string. -/
set_option linter.unusedVariables false
namespace Go.Proofs.D
open Go
section
variable {P:Program} {nr base:Nat} {φ:Phi} {β:Nat→Nat} {a:Act} {w:World} {tm:TM} {C:Call} {G G':GH} {o:Oper}
theorem src_str {y:Operand} {s:Src} {l:List UInt8} (hk:okSrc nr y s=true) (hg:(s.cell tm).bind Cell.asT=some l) (hr:∀ n∈s.rd,Rd φ β a tm n):a.eval y = .string ⟨l.toArray⟩:=by
  obtain ⟨c,hc,h⟩:=Option.bind_eq_some_iff.1 hg
  have:=asT_some h;subst this
  exact src_cell hk hc hr
theorem sound_sbytes {x:Src} {u:TV} (hk:okOp P nr o (.sbytes x)=true) (h:opD C tm G (.sbytes x)=some (u,G')) (H:HRel base φ G.get w) (hw:G.wf) (hb:base≤w.heap.size)
    (hf:∀ id,G.next≤id→id<G'.next→φ id=none) (hr:∀ n∈(DOp.sbytes x).rd,Rd φ β a tm n):ActOk P base φ β a w o G G' u:=by
  simp only [opD,opK] at h
  obtain ⟨l,hl,h⟩:=Option.bind_eq_some_iff.1 h
  simp only [Option.some.injEq,Prod.mk.injEq] at h;obtain ⟨rfl,rfl⟩:=h
  simp only [okOp] at hk
  split at hk
  · rename_i s t y ho
    simp only [Bool.and_eq_true] at hk
    have ex:=src_str (a:=a) hk.1.1 hl hr
    obtain ⟨d,hd⟩:=Option.isSome_iff_exists.1 hk.1.2
    obtain ⟨e,he,he2⟩:∃ e,P.underlying t=some (.slice e)∧P.underlying e=some (.int .u8):=by
      have:=hk.2
      split at this
      · rename_i e he
        refine ⟨e,he,?_⟩
        split at this
        · rename_i he2;exact he2
        · cases this
      · cases this
    have hrun:=Go.Lib.run_convert_string_bytes (P:=P) w s t e ⟨l.toArray⟩ hd he he2
    have hfn:φ G.next=none:=hf _ (Nat.le_refl _) (by rw [GH.next_alloc];omega)
    have hsz:(⟨l.toArray⟩:ByteArray).size=l.length:=by simp [ByteArray.size]
    have hge:l.length≤grownCap w l.length 0 e:=grownCap_ge w _ _ _
    rw [hsz] at hrun
    have hexec:(execOp a.eval o).run P w = .ok (.value (.slice (some ⟨w.heap.size,0,none⟩) l.length (grownCap w l.length 0 e))) (Go.Lib.bytesWorld w e ⟨l.toArray⟩):=by
      simp only [execOp,ho,ex,Sem.run_bind,hrun,Result.andThen_ok,Sem.run_pure]
    refine ActOk.value (φ':=φ.put G.next ⟨w.heap.size,0,grownCap w l.length 0 e⟩) hexec ?_ ?_
    · refine good_fresh (o':=.lit (l.map fun b=>.int .u8 b.toNat)) (dead:=fun _=>false) H hw hfn (fun j=>by rw [GH.get_alloc];simp) rfl ?_ (.inl (Nat.le_refl _)) (by rw [Go.Lib.bytesWorld_size];omega) (fun b hb' _=>Go.Lib.bytesWorld_at_old w e _ b hb') rfl rfl rfl
      refine ⟨_,e,_,Go.Lib.bytesWorld_at_new w e _,?_,?_,fun i x hx=>?_,hb⟩
      · simpa using hge
      · simp [Go.Lib.bytesCells,ByteArray.size];omega
      · simp only [List.getElem?_map,Option.map_eq_some_iff] at hx
        obtain ⟨v,hv,rfl⟩:=hx
        refine ⟨.int .u8 v.toNat,?_,rfl⟩
        have hi:i<l.length:=(List.getElem?_eq_some_iff.1 hv).1
        simp only [Go.Lib.bytesCells,Nat.zero_add]
        rw [Array.getElem?_append_left (by simpa using hi)]
        simp [hv]
    · exact .inr ⟨by have:=hw.2;omega,_,0,_,Phi.put_self _ _ _,rfl,hge,.inl ⟨by simp,by simp⟩⟩
  · cases hk
theorem run_copy_row {dT sT ty elem:TypeId} {b off dLen dCap:Nat} {s:Addr} {sLen sCap:Nat} {cs:List Value} {cur:Array Value} {t:TypeId}
    (hu:P.underlying dT=some (.slice elem)) (hs:(P.info? elem).map (·.size)=some 1) (hn:cs.length=min sLen dLen)
    (hsrc:∀ j v,cs[j]? = some v→w.cell? (s.add j)=some v) (hg:w.heap[b]? = some (.cells cur t (0,0))) (hl:off+cs.length≤cur.size) (h1:∀ v∈cs,v.oneCell' = true) :
    (Builtin.copy_ #[dT,sT] ty #[.slice (some ⟨b,off,none⟩) dLen dCap,.slice (some s) sLen sCap]).run P w = .ok (goInt cs.length) (w.setRow b (cur.toList.take off++cs++cur.toList.drop (off+cs.length)).toArray):=by
  have hl':=run_loadCells_list (P:=P) w s cs hsrc
  have hst:=storeCells_run (P:=P) hg hl h1
  have hn':min sLen dLen=cs.length:=hn.symm
  cases hq:P.info? elem with
  | none=>simp [hq] at hs
  | some i =>
    have hi:i.size=1:=by simpa [hq] using hs
    simp [Builtin.copy_,run_underlying hu,Builtin.lenOf,Builtin.firstCells,sizeOf,typeInfo,hq,hi,hn',hl',hst]
theorem run_copy_zero {dT sT ty elem:TypeId} {d s:Option Addr} {dLen dCap sLen sCap:Nat} (hu:P.underlying dT=some (.slice elem)) (hs:(P.info? elem).map (·.size)=some 1) (hn:sLen=0∨dLen=0) :
    (Builtin.copy_ #[dT,sT] ty #[.slice d dLen dCap,.slice s sLen sCap]).run P w = .ok (goInt 0) w:=run_copy_none w dT sT ty elem d s dLen dCap sLen sCap hu hs (by rcases hn with h | h <;> simp [h])
theorem row_over {id off:Nat} {cs new:List Cell} {L:Loc} {vs:List Value} {cur:Array Value} {te:TypeId} (H:HRel base φ G.get w) (hw:G.wf) (hcs:G.own id=some cs) (hL:φ id=some L) (hle:off+new.length≤cs.length) (rn:R2 (CRel φ) new vs)
    (hh:w.heap[L.blk]? = some (.cells cur te (0,0))) (a1:L.sh+cs.length≤L.lim) (a2:L.lim≤cur.size) (a3:∀ i x,cs[i]? = some x→∃ v,cur[L.sh+i]? = some v∧CRel φ x v) (a4:base≤L.blk) :
    Good base φ G w φ (G.set id (some (.row (splice cs off new) false))) (w.setRow L.blk (cur.toList.take (L.sh+off)++vs++cur.toList.drop (L.sh+off+vs.length)).toArray):=by
  have hspl:(splice cs off new).length=cs.length:=by simp [splice];omega
  have hlen:=rn.len
  refine good_put H hw (own_row hcs) rfl hL rfl ?_ (size_setRow _ _ _) (fun b hb=>setRow_keep _ _ _ _ hb) rfl rfl rfl
  refine ⟨_,te,(0,0),setRow_heap w L.blk cur _ te _ hh,by rw [hspl];exact a1,?_,splice_rel a3 rn (by omega) (by omega),fun _=>⟨rfl,a4⟩,fun h=>by cases h⟩
  simp only [List.size_toArray,List.length_append,List.length_take,List.length_drop,Array.length_toList];omega
theorem size1 {t:TypeId} (h:tSlice P t 1=true):∃ e,P.underlying t=some (.slice e)∧(P.info? e).map (·.size)=some 1:=by
  obtain ⟨e,i,hu,hi,hs,_⟩:=tSlice_info h
  exact ⟨e,hu,by simp [hi,hs]⟩
theorem sound_copy {x y:Src} {es:Nat} {u:TV} (hk:okOp P nr o (.copy x y es)=true) (h:opD C tm G (.copy x y es)=some (u,G')) (H:HRel base φ G.get w) (hw:G.wf)
    (hr:∀ n∈(DOp.copy x y es).rd,Rd φ β a tm n):ActOk P base φ β a w o G G' u:=by
  simp only [opD,opK,sK] at h
  obtain ⟨p,hp,h1⟩:=Option.bind_eq_some_iff.1 h
  obtain ⟨q,hq,h2⟩:=Option.bind_eq_some_iff.1 h1
  clear h h1
  obtain ⟨id,off,len⟩:=p
  obtain ⟨id',off',len'⟩:=q
  dsimp only at *
  simp only [okOp] at hk
  split at hk
  · rename_i c ho
    simp only [Bool.and_eq_true,Nat.beq_eq] at hk
    obtain ⟨⟨⟨⟨hcal,hargs⟩,rfl⟩,ht⟩,_⟩:=hk
    have hc:c.callee = .builtin .copy:=by split at hcal <;> simp_all
    obtain ⟨y1,y2,hca,hk1,hk2⟩:=args2 hargs
    have ex:CRel φ (.sl 1 id off len) (a.eval y1):=src_sl (a:=a) (φ:=φ) hk1 hp fun n hn=>hr n (mem_l hn)
    have ey:CRel φ (.sl 1 id' off' len') (a.eval y2):=src_sl (a:=a) (φ:=φ) hk2 hq fun n hn=>hr n (mem_r hn)
    split at ht
    · rename_i t hat
      obtain ⟨e,hu,hs⟩:=size1 ht
      have hexec:∀ (v:Value) (w':World),(Builtin.copy_ #[t,t] o.type #[a.eval y1,a.eval y2]).run P w = .ok v w'→(execOp a.eval o).run P w = .ok (.value v) w':=fun v w' hr'=>by
        have:(Builtin.copy_ c.argTypes o.type #[a.eval y1,a.eval y2]).run P w = .ok v w':=by
          rw [← hr']
          simp only [Builtin.copy_]
          simp [hat]
        simp [execOp,ho,resolve,hc,hca,invoke,builtin,this]
      split at h2
      · rename_i h0
        simp only [Option.some.injEq,Prod.mk.injEq] at h2;obtain ⟨rfl,rfl⟩:=h2
        obtain ⟨b,cap,hv,_⟩:=sl_slice ex
        obtain ⟨b',cap',hv',_⟩:=sl_slice ey
        exact ActOk.value (hexec _ _ (by rw [hv,hv'];exact run_copy_zero hu hs h0.symm)) (.refl H hw) rfl
      · rename_i h0
        obtain ⟨new,hnew,h3⟩:=Option.bind_eq_some_iff.1 h2
        obtain ⟨G2,hG,h4⟩:=Option.bind_eq_some_iff.1 h3
        simp only [Option.some.injEq,Prod.mk.injEq] at h4;obtain ⟨rfl,rfl⟩:=h4
        have n1:len≠0:=fun k=>h0 (.inl k)
        have n2:len'≠0:=fun k=>h0 (.inr k)
        obtain ⟨L,o1,cap,hL,hv,ho1⟩:∃ (L:Loc) (o1 cap:Nat),φ id=some L∧a.eval y1 = .slice (some ⟨L.blk,o1,none⟩) len cap∧o1=L.sh+off:=by
          rcases ex with ⟨_,_,k,_⟩ | ⟨_,L,o1,cap,k1,k2,k3,k4⟩
          · exact absurd k n1
          · exact ⟨L,o1,cap,k1,k2,by rcases k4 with ⟨k,_⟩ | ⟨k,_⟩;exact k;omega⟩
        obtain ⟨L',o2,cap',hL',hv',ho2⟩:∃ (L:Loc) (o1 cap:Nat),φ id' = some L∧a.eval y2 = .slice (some ⟨L.blk,o1,none⟩) len' cap∧o1=L.sh+off':=by
          rcases ey with ⟨_,_,k,_⟩ | ⟨_,L,o1,cap,k1,k2,k3,k4⟩
          · exact absurd k n2
          · exact ⟨L,o1,cap,k1,k2,by rcases k4 with ⟨k,_⟩ | ⟨k,_⟩;exact k;omega⟩
        subst ho1;subst ho2
        obtain ⟨hnl,vs,rn,hcells⟩:=lds_cells H hnew hL'
        rw [Nat.mul_one] at hnl
        unfold GH.sts at hG
        obtain ⟨cs,hcs,hG⟩:=Option.bind_eq_some_iff.1 hG
        split at hG
        · rename_i hle
          simp at hG;subst hG
          obtain ⟨cur,te,hh,a1,a2,a3,a4⟩:=row_cells H (own_row hcs) hL
          have hvl:vs.length=min len' len:=by rw [← rn.len,hnl]
          have hrun:=run_copy_row (P:=P) (w:=w) (ty:=o.type) (dT:=t) (sT:=t) (dLen:=len) (dCap:=cap) (sLen:=len') (sCap:=cap') (off:=L.sh+off) hu hs hvl hcells hh (by rw [hvl];omega) rn.one
          rw [← hv,← hv'] at hrun
          refine ActOk.value (hexec _ _ hrun) (row_over H hw hcs hL hle rn hh a1 a2 a3 a4) ?_
          rw [hvl];rfl
        · cases hG
    · cases ht
  · cases hk
theorem run_clear_row {t e ty:TypeId} {z:Value} {b off n c:Nat} {cur:Array Value} {te:TypeId} (ht:P.underlying t=some (.slice e)) (hv:∀ w,(zeroValue e).run P w = .ok z w) (hz:z.cells = #[z]) (h1:z.oneCell' = true) (hn:n≠0)
    (hg:w.heap[b]? = some (.cells cur te (0,0))) (hl:off+n≤cur.size) :
    (Builtin.clear_ #[t] ty #[.slice (some ⟨b,off,none⟩) n c]).run P w = .ok (.tuple #[]) (w.setRow b (cur.toList.take off++List.replicate n z++cur.toList.drop (off+(List.replicate n z).length)).toArray):=by
  have hzc:(Builtin.zeroCells z.cells n).toList=List.replicate n z:=by
    rw [hz]
    simp [Builtin.zeroCells]
    apply List.ext_getElem
    · simp
    · intro i h1 h2
      simp [Nat.mod_one]
  have hst:=storeCells_run (P:=P) (vs:=List.replicate n z) hg (by simpa using hl) (by intro v hv';rw [List.eq_of_mem_replicate hv'];exact h1)
  obtain ⟨m,rfl⟩:∃ m,n=m+1:=⟨n-1,by omega⟩
  simp only [List.length_replicate] at hst
  simp [Builtin.clear_,run_underlying ht,hv,hzc,hst]
theorem run_clear_zero {t e ty:TypeId} {s:Option Addr} {c:Nat} (ht:P.underlying t=some (.slice e)):(Builtin.clear_ #[t] ty #[.slice s 0 c]).run P w = .ok (.tuple #[]) w:=by
  cases s <;> simp [Builtin.clear_,run_underlying ht]
theorem sound_clear {x:Src} {zero:List Cell} {u:TV} (hk:okOp P nr o (.clear x zero)=true) (h:opD C tm G (.clear x zero)=some (u,G')) (H:HRel base φ G.get w) (hw:G.wf)
    (hr:∀ n∈(DOp.clear x zero).rd,Rd φ β a tm n):ActOk P base φ β a w o G G' u:=by
  simp only [okOp] at hk
  split at hk
  · rename_i c ho
    simp only [Bool.and_eq_true] at hk
    obtain ⟨hcal,hk⟩:=hk
    have hc:c.callee = .builtin .clear:=by split at hcal <;> simp_all
    split at hk
    · rename_i k n0
      simp only [Bool.and_eq_true] at hk
      obtain ⟨hargs,hty⟩:=hk
      split at hty
      · rename_i t hat
        split at hty
        · rename_i e hu
          split at hty
          · rename_i i hi
            split at hty
            · rename_i z hz
              simp only [Bool.and_eq_true,Nat.beq_eq] at hty
              obtain ⟨hzc,hsz⟩:=hty
              have hzi:z = .int k n0:=okCell_rel (φ:=φ) hzc
              subst hzi
              simp only [opD,opK,sK,List.length_singleton] at h
              obtain ⟨p,hp,h2⟩:=Option.bind_eq_some_iff.1 h
              clear h
              obtain ⟨id,off,len⟩:=p
              dsimp only at *
              obtain ⟨y1,hca,hk1⟩:∃ y1,c.args = #[y1]∧okSrc nr y1 x=true:=by
                cases hl:c.args.toList with
                | nil=>simp [hl,okSrcs] at hargs
                | cons p ps=>cases ps with
                  | nil=>rw [hl] at hargs;simp [okSrcs] at hargs;exact ⟨p,by rw [← Array.toArray_toList (xs:=c.args),hl],hargs⟩
                  | cons q qs=>simp [hl,okSrcs] at hargs
              have ex:CRel φ (.sl 1 id off len) (a.eval y1):=src_sl (a:=a) (φ:=φ) hk1 hp hr
              have hzv:∀ w,(zeroValue e).run P w = .ok (.int k n0) w:=fun w=>by simp [zeroValue,typeInfo,hi,hz]
              have hexec:∀ (v:Value) (w':World),(Builtin.clear_ #[t] o.type #[a.eval y1]).run P w = .ok v w'→(execOp a.eval o).run P w = .ok (.value v) w':=fun v w' hr'=>by
                have:(Builtin.clear_ c.argTypes o.type #[a.eval y1]).run P w = .ok v w':=by
                  rw [← hr']
                  simp only [Builtin.clear_]
                  simp [hat]
                simp [execOp,ho,resolve,hc,hca,invoke,builtin,this]
              split at h2
              · rename_i h0
                simp only [Option.some.injEq,Prod.mk.injEq] at h2;obtain ⟨rfl,rfl⟩:=h2
                subst h0
                obtain ⟨b,cap,hv,_⟩:=sl_slice ex
                exact ActOk.value (hexec _ _ (by rw [hv];exact run_clear_zero hu)) (.refl H hw) trivial
              · rename_i n1
                obtain ⟨G2,hG,h4⟩:=Option.bind_eq_some_iff.1 h2
                simp only [Option.some.injEq,Prod.mk.injEq] at h4;obtain ⟨rfl,rfl⟩:=h4
                obtain ⟨L,o1,cap,hL,hv,ho1⟩:∃ (L:Loc) (o1 cap:Nat),φ id=some L∧a.eval y1 = .slice (some ⟨L.blk,o1,none⟩) len cap∧o1=L.sh+off:=by
                  rcases ex with ⟨_,_,k,_⟩ | ⟨_,L,o1,cap,k1,k2,k3,k4⟩
                  · exact absurd k n1
                  · exact ⟨L,o1,cap,k1,k2,by rcases k4 with ⟨k,_⟩ | ⟨k,_⟩;exact k;omega⟩
                subst ho1
                have hreps:reps len [Cell.int k n0]=List.replicate len (.int k n0):=by
                  unfold reps
                  induction len with
                  | zero=>rfl
                  | succ m ih=>simp [List.replicate_succ]
                rw [hreps] at hG
                unfold GH.sts at hG
                obtain ⟨cs,hcs,hG⟩:=Option.bind_eq_some_iff.1 hG
                split at hG
                · rename_i hle
                  simp at hG;subst hG
                  obtain ⟨cur,te,hh,a1,a2,a3,a4⟩:=row_cells H (own_row hcs) hL
                  have rn:R2 (CRel φ) (List.replicate len (Cell.int k n0)) (List.replicate len (Value.int k n0)):=R2.rep (R:=CRel φ) (x:=Cell.int k n0) (y:=Value.int k n0) rfl len
                  have hrun:=run_clear_row (P:=P) (w:=w) (ty:=o.type) (t:=t) (n:=len) (c:=cap) (off:=L.sh+off) hu hzv rfl rfl n1 hh (by simp at hle;omega)
                  rw [← hv] at hrun
                  exact ActOk.value (hexec _ _ hrun) (row_over H hw hcs hL hle rn hh a1 a2 a3 a4) trivial
                · cases hG
            · cases hty
          · cases hty
        · cases hty
      · cases hty
    · cases hk
  · cases hk
end
end Go.Proofs.D
/- A statement whose order is open: the machine takes one order,the model any. -/
set_option linter.unusedVariables false
namespace Go.Proofs.D
open Go
inductive Kl where
  | pure | rd | al | act | loc | chk
  deriving DecidableEq
def DOp.kl:DOp→Kl
  | .ldG .. | .lkup .. | .mlen ..=>.rd
  | .newz .. | .newv .. | .bslice .. | .mkslice .. | .mkmap ..=>.al
  | .stG .. | .app .. | .copy .. | .clear .. | .mupd .. | .del .. | .call .. | .callT .. | .sbytes ..=>.act
  | .boxz .. | .boxv .. | .ldL .. | .stL .. | .faddr .. | .iaddrA ..=>.loc
  | .reG .. | .reK ..=>.chk
  | _=>.pure
def DO.wr (o:DO):List Nat:=o.dst.toList++match o.op with
  | .boxz b ders _ | .boxv b ders _ _=>b::ders
  | .stL _ b _ _=>[b]
  | _=>[]
def DO.rds (o:DO):List Nat:=(match o.grd with | some (g,_)=>[g] | none=>[])++o.op.rd
section
variable {C:Call} {tm tm':TM} {G G':GH}
theorem put_get {dst:Option Nat} {v:TV} {t:Nat} (h:t ∉ dst.toList):(put tm dst v)[t]? = tm[t]?:=by
  cases dst with
  | none=>rfl
  | some d=>simp at h;simp only [put];rw [List.getElem?_set_ne (fun e=>h e.symm)]
theorem ders_get (ders:List Nat):∀ (tm:TM) (t:Nat),t ∉ ders→(ders.foldl (fun tm i=>tm.set i TV.und) tm)[t]? = tm[t]?:=by
  induction ders with
  | nil=>intros;rfl
  | cons d ds ih =>
    intro tm t h
    simp at h
    rw [List.foldl_cons,ih _ _ h.2,List.getElem?_set_ne (fun e=>h.1 e.symm)]
theorem opLD_wr {o:DO} (h:opLD tm o.dst o.op=some tm') {t:Nat} (ht:t ∉ o.wr):tm'[t]? = tm[t]?:=by
  obtain ⟨ix,dst,op,grd⟩:=o
  simp only [DO.wr,List.mem_append,not_or] at ht h
  obtain ⟨h1,h2⟩:=ht
  simp only [opLD] at h
  have hd:∀ d,dst=some d→d≠t:=fun d e e'=>h1 (by simp [e,e'])
  cases op <;> simp only [opL] at h <;> try (cases h;done)
  case boxz b ders cs =>
    cases dst with
    | none=>cases h
    | some d =>
      simp at h h2;subst h
      rw [List.getElem?_set_ne (hd d rfl),List.getElem?_set_ne (fun e=>h2.1 e.symm),ders_get _ _ _ h2.2]
  case boxv b ders x n =>
    obtain ⟨v,_,h⟩:=Option.bind_eq_some_iff.1 h
    obtain ⟨_,h⟩:=chk_some h
    cases dst with
    | none=>cases h
    | some d =>
      simp at h h2;subst h
      rw [List.getElem?_set_ne (hd d rfl),List.getElem?_set_ne (fun e=>h2.1 e.symm),ders_get _ _ _ h2.2]
  case ldL a b s =>
    split at h
    · obtain ⟨_,h⟩:=chk_some h
      cases s with
      | c s=>obtain ⟨c,_,h⟩:=Option.bind_eq_some_iff.1 h;simp at h;subst h;rw [List.getElem?_set_ne (hd _ rfl)]
      | agg ss=>obtain ⟨_,h⟩:=chk_some h;simp at h;subst h;rw [List.getElem?_set_ne (hd _ rfl)]
    · cases h
  case stL a b x n =>
    split at h
    · obtain ⟨v,_,h⟩:=Option.bind_eq_some_iff.1 h
      obtain ⟨_,h⟩:=chk_some h
      simp at h h2;subst h;rw [List.getElem?_set_ne (fun e=>h2 e.symm)]
    · cases h
  case faddr a off =>
    split at h
    · simp at h;subst h;rw [List.getElem?_set_ne (hd _ rfl)]
    · simp at h;subst h;rw [List.getElem?_set_ne (hd _ rfl)]
    · cases h
  case iaddrA a i len es =>
    obtain ⟨q,_,h⟩:=Option.bind_eq_some_iff.1 h
    obtain ⟨_,h⟩:=guardK_some h
    split at h
    · simp at h;subst h;rw [List.getElem?_set_ne (hd _ rfl)]
    · simp at h;subst h;rw [List.getElem?_set_ne (hd _ rfl)]
    · cases h
theorem stepD_cases {o:DO} (h:stepD C o tm G=some (tm',G')) :
    ((∀ g want,o.grd=some (g,want)→(tm[g]? = some .no∨tm[g]? = some (.v (.c (.bool (!want))))) )∧o.grd≠none∧tm' = put tm o.dst .no∧G' = G) ∨
    ((∀ g want,o.grd=some (g,want)→tm[g]? = some (.v (.c (.bool want))))∧goD C o tm G=some (tm',G')):=by
  unfold stepD at h
  split at h
  · rename_i hg;exact .inr ⟨fun g want e=>(by rw [hg] at e;cases e),h⟩
  · rename_i g want hg
    split at h
    · rename_i b hb
      split at h
      · rename_i e;subst e
        exact .inr ⟨fun g' w' e=>(by rw [hg] at e;cases e;exact hb),h⟩
      · rename_i e
        simp at h;obtain ⟨rfl,rfl⟩:=h
        refine .inl ⟨fun g' w' e'=>(by rw [hg] at e';cases e';right;rw [hb];cases b <;> cases want <;> simp_all),by simp [hg],rfl,rfl⟩
    · rename_i hb
      simp at h;obtain ⟨rfl,rfl⟩:=h
      exact .inl ⟨fun g' w' e'=>(by rw [hg] at e';cases e';exact .inl hb),by simp [hg],rfl,rfl⟩
    · cases h
theorem stepD_wr {o:DO} (h:stepD C o tm G=some (tm',G')) {t:Nat} (ht:t ∉ o.wr):tm'[t]? = tm[t]?:=by
  have hd:t ∉ o.dst.toList:=fun e=>ht (by simp only [DO.wr,List.mem_append];exact .inl e)
  rcases stepD_cases h with ⟨_,_,rfl,_⟩ | ⟨_,h⟩
  · exact put_get hd
  · unfold goD at h
    split at h
    · simp at h;obtain ⟨x,hx,rfl,rfl⟩:=h;exact opLD_wr hx ht
    · simp at h;obtain ⟨x,G2,hx,rfl,rfl⟩:=h;exact put_get hd
theorem opD_al {op:DOp} {u:TV} (hk:op.kl = .al) (h:opD C tm G op=some (u,G')):∃ obj,G' = G.alloc obj:=by
  cases op <;> simp [DOp.kl] at hk
  case newz cs=>simp [opD,opK] at h;exact ⟨_,h.2.symm⟩
  case newv x n=>simp only [opD,opK] at h;obtain ⟨v,_,h⟩:=Option.bind_eq_some_iff.1 h;obtain ⟨_,h⟩:=chk_some h;simp at h;exact ⟨_,h.2.symm⟩
  case bslice len es zero ps=>simp only [opD,opK] at h;obtain ⟨v,_,h⟩:=Option.bind_eq_some_iff.1 h;simp at h;exact ⟨_,h.2.symm⟩
  case mkslice n es b zero=>simp only [opD,opK,natK] at h;obtain ⟨v,_,h⟩:=Option.bind_eq_some_iff.1 h;obtain ⟨_,h⟩:=guardK_some h;simp at h;exact ⟨_,h.2.symm⟩
  case mkmap ks=>simp [opD,opK] at h;exact ⟨_,h.2.symm⟩
theorem opsD_trace (C:Call):∀ (os:List DO) (tm:TM) (G:GH) (tm':TM) (G':GH),opsD C os tm G=some (tm',G') →
    ∃ st:Nat→TM×GH,st 0=(tm,G)∧st os.length=(tm',G')∧∀ i o,os[i]? = some o→stepD C o (st i).1 (st i).2=some (st (i+1))
  | [],tm,G,tm',G',h=>by simp [opsD] at h;obtain ⟨rfl,rfl⟩:=h;exact ⟨fun _=>(tm,G),rfl,rfl,fun i o h=>by simp at h⟩
  | o::os,tm,G,tm',G',h=>by
    simp only [opsD] at h
    obtain ⟨⟨tm1,G1⟩,h1,h2⟩:=Option.bind_eq_some_iff.1 h
    obtain ⟨st,s0,sn,hs⟩:=opsD_trace C os tm1 G1 tm' G' h2
    refine ⟨fun i=>match i with | 0=>(tm,G) | i+1=>st i,rfl,sn,fun i x hx=>?_⟩
    cases i with
    | zero=>simp at hx;subst hx;simp only [s0];exact h1
    | succ i=>exact hs i x (by simpa using hx)
end
/-! ### The order of a region's operations -/
def predsFrom:List Oper→List Nat→List Nat
  | [],acc=>acc
  | o::os,acc=>predsFrom os (acc++[o.after.toList.foldl (fun m e=>bif Region.binds .any e then (m ||| (1 <<< e.on)) ||| acc.getD e.on 0 else m) 0])
def preds (ops:List Oper):List Nat:=predsFrom ops []
def disj (xs ys:List Nat):Bool:=xs.all fun x=>!ys.contains x
def rechecked (items:List DO) (i j:Nat):Bool:=match items[i]? with
  | some ri=>match ri.dst with
    | some d=>!ri.rds.contains d&&(go (items.drop (j+1)) ri.op ri.grd d)&&((items.drop (i+1)).all fun o=>decide (o.op.kl = .chk)||(disj o.wr (d::ri.rds)))
    | none=>false
  | none=>false
where
  go:List DO→DOp→Option (Nat×Bool)→Nat→Bool
    | [],_,_,_=>false
    | c::cs,op,gd,d=>match c.op,op with
      | .reG d' a' s',.ldG a s=>(Nat.beq d d'&&Nat.beq a a'&&decide (s=s')&&decide (c.grd=gd)&&c.dst.isNone)||(decide (c.op.kl = .chk)&&go cs op gd d)
      | .reK d' ks' m' k' z' s' b',.lkup ks m k z s b=>(Nat.beq d d'&&decide (ks=ks')&&decide (m=m')&&decide (k=k')&&decide (z=z')&&decide (s=s')&&(b == b')&&decide (c.grd=gd)&&c.dst.isNone)||(decide (c.op.kl = .chk)&&go cs op gd d)
      | _,_=>decide (c.op.kl = .chk)&&go cs op gd d
end Go.Proofs.D
