/- The abstract evaluator: definitions. Slices by content,local variables and own rows as objects under keys. Conditions: none. -/
import GoSem.Step
import Derived.Orders
set_option linter.unusedSimpArgs false
set_option linter.unusedVariables false
namespace Go.Proofs.YtkmpkebaloejhaaGreatDoor.Av
open Go
inductive Ty where
 | int (k:IntKind)
 | bool
 | str
 | list (e:Nat) (t:Ty)
 | pair (a b:Ty)
@[reducible] def Ty.den:Ty→Type
  | .int _=>Int
  | .bool=>Bool
  | .str=>List UInt8
  | .list _ t=>List t.den
  | .pair a b=>a.den×b.den
def Ty.dflt:(t:Ty)→t.den
 | .int _=>(0:Int)
 | .bool=>false
 | .str=>([]:List UInt8)
 | .list _ _=>[]
 | .pair a b=>(a.dflt,b.dflt)
def Ty.sz:Ty→Nat
 | .int _=>1
 | .bool=>1
 | .str=>1
 | .list _ _=>1
 | .pair a b=>a.sz+b.sz
def Ty.same:(a b:Ty)→Option (PLift (a=b))
 | .int k,.int k'=>if h:k=k' then some ⟨by rw [h]⟩ else none
 | .bool,.bool=>some ⟨rfl⟩
 | .str,.str=>some ⟨rfl⟩
 | .list e t,.list e' t'=>
   match Ty.same t t' with
   | some ⟨h⟩=>if he:e=e' then some ⟨by rw [h,he]⟩ else none
   | none=>none
 | .pair a b,.pair a' b'=>
   match Ty.same a a' with
   | some ⟨h⟩=>match Ty.same b b' with
     | some ⟨h'⟩=>some ⟨by rw [h,h']⟩
     | none=>none
   | none=>none
 | _,_=>none
inductive CV where
 | bot
 | nil
 | int (k:IntKind) (n:Int)
 | bool (b:Bool)
 | str (s:List UInt8)
 | list (e:Nat) (t:Ty) (xs:List t.den)
 | own (i:Nat)
 | ptr (i off:Nat)
inductive AV where
 | c (x:CV)
 | agg (l:List CV)
 | view (i lo hi:Nat) (tight:Bool)
 | elt (i j off:Nat)
 | eltv (cells:List CV)
 | aelt (i off n j:Nat)
 | tup (l:List (Bool×List CV))
 | fn (f:Nat) (caps:List CV)
 | bm (f:Nat) (first:List CV)
 | t0 (e:Nat) (t:Ty)
 | und
 | nz (e:Nat) (t:Ty) (b:Option Bool)
inductive Obj where
 | dead
 | row (e:Nat) (t:Ty) (xs:List t.den)
 | froz (e:Nat) (t:Ty) (xs:List t.den)
 | box (ty:Nat) (cs:List CV)
 | mp (ty:Nat) (k v:Ty) (es:List (k.den×v.den))
 | it (s:List UInt8) (p:Nat)
abbrev Objs:=List (Nat×Obj)
def oget:Objs→Nat→Option Obj
 | [],_=>none
 | (j,o)::r,i=>bif Nat.beq j i then some o else oget r i
def oset (i:Nat) (o:Obj):Objs→Objs
 | []=>[(i,o)]
 | (j,p)::r=>bif Nat.blt i j then (i,o)::(j,p)::r else bif Nat.beq i j then (i,o)::r else (j,p)::oset i o r
inductive TK where
 | sc
 | slice (e:Nat)
 | struct (fs:List (Nat×Nat))
 | array (n e:Nat)
 | map (k e:Nat)
 | other
structure TI where
 kind:TK
 size:Nat
 bytes:Nat
 agg:Bool
 zero:List CV
 cty:List (Option (Nat×Ty))
 ty:Option Ty
 eqf:Bool:=false
inductive BT where
 | leaf
 | node (l:BT) (k:Nat) (v:TI) (r:BT)
def BT.get:BT→Nat→Option TI
 | .leaf,_=>none
 | .node l k v r,t=>bif Nat.beq t k then some v else bif Nat.blt t k then l.get t else r.get t
def BT.all (p:Nat→TI→Bool):BT→Bool
 | .leaf=>true
 | .node l k v r=>p k v && (l.all p && r.all p)
def explode:(t:Ty)→t.den→List CV
 | .int k,x=>[.int k x]
 | .bool,x=>[.bool x]
 | .str,x=>[.str x]
 | .list e t,xs=>[.list e t xs]
 | .pair a b,x=>explode a x.1++explode b x.2
def implode:(t:Ty)→List CV→Option (t.den×List CV)
 | .int k,.int k' n::r=>if k=k' then some (n,r) else none
 | .bool,.bool b::r=>some (b,r)
 | .str,.str s::r=>some (s,r)
 | .list e t,.list e' t' xs::r=>
   match Ty.same t' t with
   | some ⟨h⟩=>bif Nat.beq e e' then some (h ▸ xs,r) else none
   | none=>none
 | .list _ _,.nil::r=>some ([],r)
 | .pair a b,l=>
   match implode a l with
   | some (x,r)=>match implode b r with
     | some (y,r')=>some ((x,y),r')
     | none=>none
   | none=>none
 | _,_=>none
def ofValue:Value→AV
 | .int k n=>.c (.int k n)
 | .bool b=>.c (.bool b)
 | .string s=>.c (.str s.data.toList)
 | .slice none 0 0=>.c .nil
 | _=>.c .bot
def rdop (gl:Nat→Option (List CV)) (x:Operand) (env:List AV):AV:=
 match x with
 | .tmp t=>env.getD t (.c .bot)
 | .const v=>ofValue v
 | .global g=>match gl g with
   | some cells=>.eltv cells
   | none=>.c .bot
 | .func f=>.fn f []
def rowOf (objs:Objs) (i:Nat):Option (Nat×(t:Ty)×List t.den):=
 match oget objs i with
 | some (.row e t xs)=>some (e,⟨t,xs⟩)
 | some (.froz e t xs)=>some (e,⟨t,xs⟩)
 | _=>none
def goodC (objs:Objs):CV→Bool
 | .bot=>false
 | .own i=>(rowOf objs i).isSome
 | .ptr i _=>match oget objs i with
   | some (.box ..)=>true
   | _=>false
 | _=>true
def cellsOf (objs:Objs):AV→Option (List CV)
 | .c x=>bif goodC objs x then some [x] else none
 | .agg l=>some l
 | _=>none
def freeze1 (i:Nat) (objs:Objs):Objs:=
 match oget objs i with
 | some (.row e t xs)=>oset i (.froz e t xs) objs
 | _=>objs
def asVal (objs:Objs):AV→Option AV
 | .c (.own i)=>match rowOf objs i with
   | some (e,⟨t,xs⟩)=>some (.c (.list e t xs))
   | none=>none
 | .view i lo hi _=>match rowOf objs i with
   | some (e,⟨t,xs⟩)=>some (.c (.list e t ((xs.take hi).drop lo)))
   | none=>none
 | .nz e t _=>some (.c (.list e t []))
 | .t0 e t=>some (.c (.list e t []))
 | v=>some v
def cellVal (objs:Objs):CV→CV
 | .own i=>match rowOf objs i with
   | some (e,⟨t,xs⟩)=>.list e t xs
   | none=>.bot
 | v=>v
def asC:AV→Option CV
 | .c x=>some x
 | _=>none
def keyOf:AV→List Nat
 | .c (.own i)=>[i]
 | .view i _ _ _=>[i]
 | .agg l=>l.filterMap fun | .own i=>some i | _=>none
 | _=>[]
def freezeAll (l:List Nat) (objs:Objs):Objs:=l.foldl (fun o i=>freeze1 i o) objs
def intoElem (t:Ty) (v:AV) (objs:Objs):Option (t.den×Objs):=
 match asVal objs v with
 | some v'=>match cellsOf objs v' with
   | some l=>match implode t (l.map (cellVal objs)) with
     | some (x,[])=>some (x,freezeAll (keyOf v) objs)
     | _=>none
   | none=>none
 | none=>none
def boxCells (u:Nat):Nat→List CV→List (Option (Nat×Ty))→Objs→List CV×Objs
 | j,.nil::r,some (e,t)::q,objs=>let z:=boxCells u (j+1) r q (oset (u+j) (.row e t []) objs);(.own (u+j)::z.1,z.2)
 | j,c::r,_::q,objs=>let z:=boxCells u (j+1) r q objs;(c::z.1,z.2)
 | _,l,_,objs=>(l,objs)
def replaceAt (off:Nat) (new:List CV) (l:List CV):List CV:=l.take off++new++l.drop (off+new.length)
structure Ops where
 lim:Nat→Nat→Bool
 lt:Int→Int→Bool
 eq:Int→Int→Bool
def Ops.std:Ops:=⟨fun n b=>decide (n*b≤140737488355328),fun a b=>decide (a<b),fun a b=>decide (a=b)⟩
def Ops.le (B:Ops) (a b:Int):Bool:=!B.lt b a
def Ops.inb (B:Ops) (j:Int) (n:Nat):Bool:=cond (B.lt j 0) false (B.lt j n)
structure Ops.ok (B:Ops):Prop where
 lim:∀ n b,B.lim n b=decide (n*b≤140737488355328)
 lt:∀ a b,B.lt a b=decide (a<b)
 eq:∀ a b,B.eq a b=decide (a=b)
theorem Ops.std_ok:Ops.std.ok:=⟨fun _ _=>rfl,fun _ _=>rfl,fun _ _=>rfl⟩
section
variable {R:Type} (τ:Nat→Option TI) (B:Ops) (gl:Nat→Option (List CV))
def ofCells (t:TI) (l:List CV):Option AV:=
 if t.agg then some (.agg l) else match l with
  | [x]=>some (.c x)
  | _=>none
def freshly (u:Nat) (objs:Objs) (k:Option R):Option R:=
 match oget objs u with
 | none=>k
 | some _=>none
def amove (u:Nat) (t:Nat) (v:AV) (objs:Objs) (k:AV→Objs→Option R):Option R:=
 match v with
 | .c .nil=>match τ t with
   | some { kind:=.slice e,.. }=>match (τ e).bind (·.ty) with
     | some ty=>freshly u objs (k (.c (.own u)) (oset u (.row e ty []) objs))
     | none=>k v objs
   | _=>k v objs
 | _=>k v objs
def acut (u i hi:Nat) (objs:Objs) (k:AV→Objs→Option R):Option R:=
 match oget objs i with
 | some (.row e t xs)=>freshly u objs (k (.c (.own u)) (oset u (.row e t (xs.take hi)) (oset i .dead objs)))
 | _=>none
def aassign (u:Nat) (t:Nat) (was:Option AV) (v:AV) (objs:Objs) (k:AV→Objs→Option R):Option R:=
 match v,was with
 | .view i 0 hi false,some (.c (.own j))=>bif Nat.beq i j then acut u i hi objs k else amove τ u t v objs k
 | _,_=>amove τ u t v objs k
def newBox (u:Nat) (t:Nat) (ti:TI) (cells:List CV) (objs:Objs) (k:AV→Objs→Option R):Option R:=
 let z:=boxCells (u+1) 0 cells ti.cty objs
 bif (List.range (cells.length+1)).all fun j=>(oget objs (u+j)).isNone then k (.c (.ptr u 0)) (oset u (.box t z.1) z.2) else none
def isBool (t:Nat):Bool:=
 match τ t with
 | some { kind:=.sc,zero:=[.bool _],.. }=>true
 | _=>false
def sliceOf (t:Nat):Option Nat:=
 match τ t with
 | some { kind:=.slice e,.. }=>some e
 | _=>none
def aeqCells:List CV→List CV→List CV→Option Bool
 | [],[],[]=>some true
 | z::zs,a::l,b::m=>match aeqCells zs l m with
   | some r=>match z,a,b with
     | .int _ _,.int k n,.int k' n'=>if k=k' then some (B.eq n n' && r) else none
     | .bool _,.bool p,.bool q=>some ((p == q) && r)
     | .str _,.str s,.str t=>some ((s == t) && r)
     | _,_,_=>none
   | none=>none
 | _,_,_=>none
def eqZero (t:Nat):Option (List CV):=
 match τ t with
 | some ti=>bif ti.eqf then some ti.zero else none
 | none=>none
def bitAnd (a:IntKind) (n m:Int):Int:=a.wrap ((BitVec.ofInt a.bits n &&& BitVec.ofInt a.bits m).toNat)
def shlI (a:IntKind) (n m:Int):Int:=a.wrap (n*2 ^ min m.toNat a.bits)
def shrI (a:IntKind) (n m:Int):Int:=n.fdiv (2 ^ min m.toNat a.bits)
def abin0 (op:BinOp) (t:Nat) (x y:AV) (k:AV→Option R):Option R:=
 match x,y with
 | .c (.int a n),.c (.int b m)=>
   if a=b then
    match op with
    | .add=>k (.c (.int a (a.wrap (n+m))))
    | .sub=>k (.c (.int a (a.wrap (n-m))))
    | .mul=>k (.c (.int a (a.wrap (n*m))))
    | .quo=>cond (B.eq m 0) none (k (.c (.int a (a.wrap (n.tdiv m)))))
    | .rem=>cond (B.eq m 0) none (k (.c (.int a (n.tmod m))))
    | .eql=>k (.c (.bool (B.eq n m)))
    | .neq=>k (.c (.bool (!B.eq n m)))
    | .lss=>k (.c (.bool (B.lt n m)))
    | .leq=>k (.c (.bool (B.le n m)))
    | .gtr=>k (.c (.bool (B.lt m n)))
    | .geq=>k (.c (.bool (B.le m n)))
    | .and=>k (.c (.int a (bitAnd a n m)))
    | _=>none
   else none
 | .c (.str s),.c (.str t)=>
   match op with
   | .add=>cond (B.lim (s.length+t.length) 1) (k (.c (.str (s++t)))) none
   | .eql=>k (.c (.bool (s == t)))
   | .neq=>k (.c (.bool (!(s == t))))
   | _=>none
 | .c (.bool a),.c (.bool b)=>
   bif isBool τ t then
    match op with
    | .eql=>k (.c (.bool (a == b)))
    | .neq=>k (.c (.bool (!(a == b))))
    | _=>none
   else none
 | .agg l,.agg m=>
   match eqZero τ t with
   | some z=>match aeqCells B z l m with
     | some b=>match op with
       | .eql=>k (.c (.bool b))
       | .neq=>k (.c (.bool (!b)))
       | _=>none
     | none=>none
   | none=>none
 | .nz _ _ (some b),.c .nil=>bif (sliceOf τ t).isSome then match op with
    | .eql=>k (.c (.bool b))
    | .neq=>k (.c (.bool (!b)))
    | _=>none
   else none
 | .c (.list _ _ xs),.c .nil=>bif (sliceOf τ t).isSome then cond (B.lt 0 xs.length) (match op with
    | .eql=>k (.c (.bool false))
    | .neq=>k (.c (.bool true))
    | _=>none) none
   else none
 | _,_=>none
def ashift (left:Bool) (x y:AV) (k:AV→Option R):Option R:=
 match x,y with
 | .c (.int a n),.c (.int _ m)=>cond (B.lt m 0) none (k (.c (.int a (bif left then shlI a n m else shrI a n m))))
 | _,_=>none
def abin (op:BinOp) (t:Nat) (x y:AV) (k:AV→Option R):Option R:=
 match op with
 | .shl=>ashift B true x y k
 | .shr=>ashift B false x y k
 | op=>abin0 τ B op t x y k
def aun (op:UnOp) (x:AV) (k:AV→Option R):Option R:=
 match op,x with
 | .not,.c (.bool b)=>k (.c (.bool (!b)))
 | .neg,.c (.int a n)=>k (.c (.int a (a.wrap (0-n))))
 | _,_=>none
def aconvert (src dst:Nat) (x:AV) (k:AV→Option R):Option R:=
 match τ src,τ dst,x with
 | some { kind:=.sc,zero:=[.int _ _],.. },some { kind:=.sc,zero:=[.int b _],.. },.c (.int _ n)=>k (.c (.int b (b.wrap n)))
 | some { kind:=.sc,zero:=[.str _],.. },some { kind:=.sc,zero:=[.str _],.. },.c (.str s)=>k (.c (.str s))
 | _,_,_=>none
def isU8 (t:Nat):Bool:=
 match τ t with
 | some { kind:=.sc,zero:=[.int .u8 _],.. }=>true
 | _=>false
def isStrT (t:Nat):Bool:=
 match τ t with
 | some { kind:=.sc,zero:=[.str _],.. }=>true
 | _=>false
def aconv (src dst:Nat) (x:AV) (objs:Objs) (k:AV→Objs→Option R):Option R:=
 match sliceOf τ src,sliceOf τ dst with
 | none,some e=>match x with
   | .c (.str s)=>bif isStrT τ src && isU8 τ e then cond (B.lim s.length 1) (k (.c (.list e (.int .u8) (s.map fun b=>(b.toNat:Int)))) objs) none else none
   | _=>none
 | some e,none=>match asVal objs x with
   | some (.c (.list _ (.int .u8) xs))=>bif isStrT τ dst && isU8 τ e then k (.c (.str (xs.map fun n=>UInt8.ofNat n.toNat))) objs else none
   | _=>none
 | some e,some _=>bif Nat.beq src dst && isU8 τ e then match x with
   | .c (.own i)=>match oget objs i with
     | some (.row e' (.int .u8) (x0::xs))=>k (.c (.own i)) (oset i (.froz e' (.int .u8) (x0::xs)) objs)
     | _=>none
   | _=>none else none
 | none,none=>aconvert τ src dst x fun v=>k v objs
def cellsAt (objs:Objs) (n:Nat):AV→Option (List CV)
 | .c (.ptr i off)=>match oget objs i with
   | some (.box _ cs)=>bif Nat.ble (off+n) cs.length then some ((cs.drop off).take n) else none
   | _=>none
 | .eltv cells=>bif Nat.ble n cells.length then some (cells.take n) else none
 | .elt i j off=>match rowOf objs i with
   | some (_,⟨t,xs⟩)=>bif Nat.ble (off+n) t.sz then some (((explode t (xs.getD j t.dflt)).drop off).take n) else none
   | none=>none
 | _=>none
def strCells:List CV→Option (List (List UInt8))
 | []=>some []
 | .str s::r=>match strCells r with
   | some l=>some (s::l)
   | none=>none
 | _=>none
def intCells (k:IntKind):List CV→Option (List Int)
 | []=>some []
 | .int k' s::r=>if k=k' then match intCells k r with
   | some l=>some (s::l)
   | none=>none else none
 | _=>none
def aload (t:Nat) (a:AV) (objs:Objs) (k:AV→Option R):Option R:=
 match τ t with
 | some ti=>match a with
  | .aelt i off n j=>match oget objs i with
    | some (.box _ cs)=>bif Nat.ble (off+n) cs.length && (Nat.beq ti.size 1 && !ti.agg) then
       match strCells ((cs.drop off).take n) with
       | some ss=>k (.c (.str (ss.getD j [])))
       | none=>match intCells .i64 ((cs.drop off).take n) with
         | some ns=>k (.c (.int .i64 (ns.getD j 0)))
         | none=>none
      else none
    | _=>none
  | a=>match cellsAt objs ti.size a with
   | some l=>match ofCells ti l with
     | some v=>k v
     | none=>none
   | none=>none
 | none=>none
def astore (u:Nat) (t:Nat) (a v:AV) (objs:Objs) (k:Objs→Option R):Option R:=
 match τ t,cellsOf objs v with
 | some ti,some l=>bif Nat.beq l.length ti.size then
    match a with
    | .c (.ptr i off)=>match oget objs i with
      | some (.box ty cs)=>bif Nat.ble (off+l.length) cs.length then
         let z:=boxCells u 0 l ti.cty objs
         bif (List.range l.length).all fun j=>(oget objs (u+j)).isNone then k (oset i (.box ty (replaceAt off z.1 cs)) z.2) else none
        else none
      | _=>none
    | .elt i j off=>match oget objs i with
      | some (.row e ty xs)=>bif (keyOf v).contains i || (!Nat.ble (off+l.length) ty.sz || !(asVal objs v).isSome) then none else
        match implode ty (replaceAt off (l.map (cellVal objs)) (explode ty (xs.getD j ty.dflt))) with
        | some (x,[])=>k (oset i (.row e ty (xs.set j x)) (freezeAll (keyOf v) objs))
        | _=>none
      | _=>none
    | _=>none
   else none
 | _,_=>none
def fillAt (objs:Objs) (fs:List (Nat×Nat)):List (Nat×AV)→List CV→Option (List CV)
 | [],cs=>some cs
 | (i,v)::r,cs=>match fs[i]?,cellsOf objs v with
   | some (off,n),some l=>bif Nat.beq l.length n && Nat.ble (off+n) cs.length then fillAt objs fs r (replaceAt off l cs) else none
   | _,_=>none
def placesOf:List (Nat×Nat)→Option (List (Nat×Nat))
 | []=>some []
 | (off,t)::r=>match τ t,placesOf r with
   | some ti,some ps=>some ((off,ti.size)::ps)
   | _,_=>none
def abuild (t:Nat) (parts:List (Nat×AV)) (objs:Objs) (k:AV→Option R):Option R:=
 match τ t with
 | some ti=>match ti.kind with
   | .struct fs=>match placesOf τ fs with
     | some ps=>match fillAt objs ps parts ti.zero with
       | some l=>k (.agg l)
       | none=>none
     | none=>none
   | .array n e=>match τ e with
     | some te=>match fillAt objs ((List.range n).map fun j=>(j*te.size,te.size)) parts ti.zero with
       | some l=>k (.agg l)
       | none=>none
     | none=>none
   | _=>none
 | none=>none
def elems (t:Ty):List (Nat×AV)→Nat→Objs→Option (List t.den×Objs)
 | [],_,objs=>some ([],objs)
 | (i,v)::r,j,objs=>bif Nat.beq i j then
     match intoElem t v objs with
     | some (x,objs1)=>match elems t r (j+1) objs1 with
       | some (xs,objs2)=>some (x::xs,objs2)
       | none=>none
     | none=>none
   else none
def abuildSlice (u t len:Nat) (parts:List (Nat×AV)) (objs:Objs) (k:AV→Objs→Option R):Option R:=
 match τ t with
 | some { kind:=.slice e,.. }=>match (τ e).bind (·.ty) with
   | some ty=>bif Nat.beq len parts.length && Nat.ble (len*ty.sz) 16777216 then
      match elems ty parts 0 objs with
      | some (xs,objs1)=>freshly u objs (k (.c (.own u)) (oset u (.row e ty xs) objs1))
      | none=>none
     else none
   | none=>none
 | _=>none
def amake (u t:Nat) (l c:AV) (objs:Objs) (k:AV→Objs→Option R):Option R:=
 match τ t,l,c with
 | some { kind:=.slice e,.. },.c (.int .i64 n),.c (.int .i64 m)=>match τ e with
   | some { ty:=some ty,bytes:=b,size:=1,.. }=>
     cond (cond (B.eq n m) (cond (B.le 0 n) (B.lim n.toNat b) false) false)
      (freshly u objs (k (.c (.own u)) (oset u (.row e ty (List.replicate n.toNat ty.dflt)) objs))) none
   | _=>none
 | _,_,_=>none
def cutAt (len:Nat) (lo hi:Option AV) (k:Nat→Nat→Option R):Option R:=
 let h (hi:Int):Option R:=
  match lo with
  | none=>cond (B.inb hi (len+1)) (k 0 hi.toNat) none
  | some (.c (.int _ l))=>cond (B.inb hi (len+1)) (cond (cond (B.le 0 l) (B.le l hi) false) (k l.toNat hi.toNat) none) none
  | _=>none
 match hi with
 | some (.c (.int _ z))=>h z
 | none=>match lo with
   | none=>k 0 len
   | some (.c (.int _ l))=>cond (B.inb l (len+1)) (k l.toNat len) none
   | _=>none
 | _=>none
def elemSize (t:Nat):Nat:=
 match τ t with
 | some { kind:=.slice e,.. }=>match τ e with
   | some te=>te.size
   | none=>0
 | _=>0
def isStr (t:Nat):Bool:=
 match τ t with
 | some { kind:=.sc,zero:=[.str _],.. }=>true
 | _=>false
def isZ:AV→Bool
 | .c (.int .i64 n)=>decide (n=0)
 | _=>false
def isZZ (lo hi:Option AV):Bool:=(match hi with
 | some h=>isZ h
 | none=>false) && (match lo with
 | some l=>isZ l
 | none=>true)
def aslice (t:Nat) (x:AV) (lo hi mx:Option AV) (objs:Objs) (k:AV→Option R):Option R:=
 match x,mx with
 | .c (.str s),none=>bif isStr τ t then cutAt B s.length lo hi fun l h=>k (.c (.str ((s.take h).drop l))) else none
 | .c (.list e ty xs),none=>bif Nat.beq (elemSize τ t) ty.sz then cutAt B xs.length lo hi fun l h=>k (.c (.list e ty ((xs.take h).drop l))) else none
 | .nz e ty _,some m=>bif isZ m && (isZZ lo hi && Nat.beq (elemSize τ t) ty.sz) then k (.t0 e ty) else none
 | .c (.list e ty _),some m=>bif isZ m && (isZZ lo hi && Nat.beq (elemSize τ t) ty.sz) then k (.t0 e ty) else none
 | .c (.own i),none=>match rowOf objs i with
   | some (_,⟨ty,xs⟩)=>bif Nat.beq (elemSize τ t) ty.sz then cutAt B xs.length lo hi fun l h=>k (.view i l h false) else none
   | none=>none
 | .c (.own i),some (.c (.int .i64 m))=>match rowOf objs i,hi with
   | some (_,⟨ty,xs⟩),some (.c (.int .i64 h'))=>bif Nat.beq (elemSize τ t) ty.sz then cond (B.eq m h') (cutAt B xs.length lo hi fun l h=>k (.view i l h true)) none else none
   | _,_=>none
 | _,_=>none
def aindexAddr (t:Nat) (x ix:AV) (objs:Objs) (k:AV→Option R):Option R:=
 match ix with
 | .c (.int _ j)=>
   match x with
   | .c (.list _ ty xs)=>bif Nat.beq (elemSize τ t) ty.sz then cond (B.inb j xs.length) (k (.eltv (explode ty (xs.getD j.toNat ty.dflt)))) none else none
   | .c (.own i)=>match rowOf objs i with
     | some (_,⟨ty,xs⟩)=>bif Nat.beq (elemSize τ t) ty.sz then cond (B.inb j xs.length) (k (.elt i j.toNat 0)) none else none
     | none=>none
   | .c (.ptr i off)=>match τ t,oget objs i with
     | some { kind:=.array n e,.. },some (.box _ cs)=>match τ e with
       | some te=>bif Nat.beq te.size 1 then cond (B.inb j n) (k (.aelt i off n j.toNat)) none else none
       | none=>none
     | _,_=>none
   | .view i lo hi _=>match rowOf objs i with
     | some (_,⟨ty,_⟩)=>bif Nat.beq (elemSize τ t) ty.sz then cond (B.inb j (hi-lo)) (k (.elt i (lo+j.toNat) 0)) none else none
     | none=>none
   | .eltv l=>match τ t with
     | some { kind:=.array n e,.. }=>match τ e with
       | some te=>bif Nat.beq te.size 1 && Nat.beq n l.length then
          match strCells l with
          | some ss=>cond (B.inb j n) (k (.eltv [.str (ss.getD j.toNat [])])) none
          | none=>match intCells .i64 l with
            | some ns=>cond (B.inb j n) (k (.eltv [.int .i64 (ns.getD j.toNat 0)])) none
            | none=>none
         else none
       | none=>none
     | _=>none
   | _=>none
 | _=>none
def aindex (t:Nat) (x ix:AV) (k:AV→Option R):Option R:=
 match x,ix with
 | .c (.str s),.c (.int _ j)=>bif isStr τ t then cond (B.inb j s.length) (k (.c (.int .u8 ((s.getD j.toNat 0).toNat:Int)))) none else none
 | .agg l,.c (.int _ j)=>match τ t with
   | some { kind:=.array n e,.. }=>match τ e with
     | some te=>bif Nat.beq te.size 1 && (!te.agg && Nat.beq n l.length) then
        match strCells l with
        | some ss=>cond (B.inb j n) (k (.c (.str (ss.getD j.toNat [])))) none
        | none=>match intCells .i64 l with
          | some ns=>cond (B.inb j n) (k (.c (.int .i64 (ns.getD j.toNat 0)))) none
          | none=>none
       else none
     | none=>none
   | _=>none
 | _,_=>none
def isAddr (objs:Objs):AV→Bool
 | .c (.ptr i _)=>match oget objs i with
   | some (.box ..)=>true
   | _=>false
 | .elt i _ _=>(rowOf objs i).isSome
 | .eltv _=>true
 | _=>false
def afieldAddr (s:Nat) (x:AV) (f:Nat) (objs:Objs) (k:AV→Option R):Option R:=
 bif isAddr objs x then
 match τ s with
 | some { kind:=.struct fs,.. }=>match fs[f]? with
   | some (off,_)=>match x with
     | .c (.ptr i o)=>k (.c (.ptr i (o+off)))
     | .elt i j o=>k (.elt i j (o+off))
     | .eltv cells=>k (.eltv (cells.drop off))
     | _=>none
   | none=>none
 | _=>none
 else none
def afield (s:Nat) (x:AV) (f:Nat) (k:AV→Option R):Option R:=
 match τ s,x with
 | some { kind:=.struct fs,.. },.agg l=>match fs[f]? with
   | some (off,t)=>match τ t with
     | some ti=>match ofCells ti ((l.drop off).take ti.size) with
       | some v=>k v
       | none=>none
     | none=>none
   | none=>none
 | _,_=>none
def aextract (x:AV) (j:Nat) (k:AV→Option R):Option R:=
 match x with
 | .tup l=>match l[j]? with
   | some (true,cs)=>k (.agg cs)
   | some (false,[c])=>k (.c c)
   | _=>none
 | _=>none
def scalarTy:Ty→Bool
 | .list ..=>false
 | .pair a b=>scalarTy a && scalarTy b
 | _=>true
def appObjs (t:Ty) (x:AV) (objs:Objs):Objs:=bif scalarTy t then objs else freezeAll (keyOf x) objs
def aappend (u t:Nat) (s x:AV) (objs:Objs) (k:AV→Objs→Option R):Option R:=
 match τ t with
 | some { kind:=.slice e,.. }=>match τ e with
   | some { ty:=some ty,bytes:=b,.. }=>
     match asVal objs x with
     | some (.c (.list e' t' ys))=>match Ty.same t' ty with
       | some ⟨h⟩=>
         let go (i:Nat) (xs:List ty.den) (dead:Bool):Option R:=
          cond (B.lim (xs.length+ys.length) b)
           (freshly u objs (k (.c (.own u)) (oset u (.row e ty (xs++(h ▸ ys:List ty.den))) (bif dead then oset i .dead (appObjs ty x objs) else appObjs ty x objs)))) none
         bif Nat.beq e e' then
         match s with
         | .c .nil=>go 0 [] false
         | .t0 _ _=>cond (B.lt 0 ys.length) (go 0 [] false) (k (.t0 e ty) objs)
         | .c (.own i)=>match oget objs i with
           | some (.row e1 t1 xs)=>match Ty.same t1 ty with
             | some ⟨h1⟩=>bif Nat.beq e e1 && !(keyOf x).contains i then go i (h1 ▸ xs) true else none
             | none=>none
           | _=>none
         | .view i lo hi tight=>bif Nat.beq lo 0 then match oget objs i with
           | some (.row e1 t1 xs)=>match Ty.same t1 ty with
             | some ⟨h1⟩=>bif Nat.beq e e1 && !(keyOf x).contains i then
                bif tight then cond (B.lt 0 ys.length) (go i ((h1 ▸ xs:List ty.den).take hi) true) none
                else go i ((h1 ▸ xs:List ty.den).take hi) true
               else none
             | none=>none
           | _=>none
           else none
         | _=>none
         else none
       | none=>none
     | _=>none
   | _=>none
 | _=>none
def adel (u t i hi lo2 hi2:Nat) (objs:Objs) (k:AV→Objs→Option R):Option R:=
 match τ t with
 | some { kind:=.slice e,.. }=>match τ e with
   | some { ty:=some ty,bytes:=b,.. }=>match oget objs i with
     | some (.row e1 t1 xs)=>match Ty.same t1 ty with
       | some _=>bif Nat.beq e e1 then
          cond (B.lim ((xs.take hi).length+((xs.drop lo2).take (hi2-lo2)).length) b)
           (freshly u objs (k (.c (.own u)) (oset u (.row e1 t1 (xs.take hi++(xs.drop lo2).take (hi2-lo2))) (oset i .dead objs)))) none
          else none
       | none=>none
     | _=>none
   | _=>none
 | _=>none
def aappendD (u t:Nat) (s x:AV) (objs:Objs) (k:AV→Objs→Option R):Option R:=
 match s,x with
 | .view i 0 hi false,.view j lo2 hi2 _=>bif Nat.beq i j then adel τ B u t i hi lo2 hi2 objs k else aappend τ B u t s x objs k
 | _,_=>aappend τ B u t s x objs k
def isSlice (t:Nat):Bool:=
 match τ t with
 | some { kind:=.slice _,.. }=>true
 | _=>false
def alen (t:Nat) (x:AV) (objs:Objs) (k:AV→Option R):Option R:=
 match x with
 | .c (.str s)=>bif isStr τ t then k (.c (.int .i64 s.length)) else none
 | .c (.list _ _ xs)=>bif isSlice τ t then k (.c (.int .i64 xs.length)) else none
 | .c .nil=>bif isSlice τ t then k (.c (.int .i64 0)) else none
 | .t0 _ _=>bif isSlice τ t then k (.c (.int .i64 0)) else none
 | .nz _ _ _=>bif isSlice τ t then k (.c (.int .i64 0)) else none
 | .c (.own i)=>match rowOf objs i with
   | some (_,⟨_,xs⟩)=>bif isSlice τ t then k (.c (.int .i64 xs.length)) else none
   | none=>none
 | .view i lo hi _=>match rowOf objs i with
   | some _=>bif isSlice τ t then k (.c (.int .i64 (hi-lo:Nat))) else none
   | none=>none
 | _=>none
def aminFrom (mx:Bool) (a:IntKind):Int→List AV→(AV→Option R)→Option R
 | n,[],k=>k (.c (.int a n))
 | n,.c (.int _ m)::r,k=>aminFrom mx a (bif mx then (bif B.lt n m then m else n) else (bif B.lt m n then m else n)) r k
 | _,_,_=>none
def amin (mx:Bool):List AV→(AV→Option R)→Option R
 | .c (.int a n)::r,k=>aminFrom B mx a n r k
 | _,_=>none
abbrev Ren:=List (Nat×Nat)
def Ren.new (m:Ren) (old:Nat):Option Nat:=(m.find? fun p=>Nat.beq p.2 old).map (·.1)
def Ren.has (m:Ren) (old:Nat):Bool:=m.any fun p=>Nat.beq p.2 old
def Ren.add (m:Ren) (new old:Nat):Ren:=bif m.has old then m else m++[(new,old)]
def boxKeys (objs:Objs) (p:Nat):Nat→List CV→Ren→Ren
 | j,.own i::r,m=>boxKeys objs p (j+1) r (match oget objs i with
   | some (.row ..)=>m.add (1000*(p+1)+j) i
   | _=>m)
 | j,_::r,m=>boxKeys objs p (j+1) r m
 | _,[],m=>m
def ptrKeys (objs:Objs) (p i:Nat) (m:Ren):Ren:=
 bif m.has i then m else
 match oget objs i with
 | some (.box _ cs)=>boxKeys objs p 0 cs (m.add p i)
 | _=>m
def reach (objs:Objs) (rows:Bool) (p:Nat) (a:AV) (m:Ren):Ren:=
 match a with
 | .c (.own i)=>bif rows then match oget objs i with
   | some (.row ..)=>m.add p i
   | some (.mp ..)=>m.add p i
   | some (.it ..)=>m.add p i
   | _=>m else m
 | .c (.ptr i _)=>ptrKeys objs p i m
 | .agg l=>bif rows then (l.zipIdx.foldl (fun m cj=>match cj.1 with
    | .own i=>match oget objs i with
      | some (.row ..)=>Ren.add m (1000*(p+1)+cj.2) i
      | _=>m
    | _=>m) m) else m
 | .bm _ caps=>caps.zipIdx.foldl (fun m cj=>match cj.1 with
    | .ptr i _=>ptrKeys objs (1000*(p+1)+500+cj.2) i m
    | _=>m) m
 | .fn _ caps=>caps.zipIdx.foldl (fun m cj=>match cj.1 with
    | .ptr i _=>ptrKeys objs (1000*(p+1)+500+cj.2) i m
    | _=>m) m
 | .tup l=>bif rows then (l.zipIdx.foldl (fun m cj=>cj.1.2.zipIdx.foldl (fun m dj=>match dj.1 with
    | .own i=>match oget objs i with
      | some (.row ..)=>Ren.add m (1000*(p+1)+100*cj.2+dj.2) i
      | _=>m
    | _=>m) m) m) else m
 | _=>m
def frozC (objs:Objs) (i:Nat):CV:=
 match oget objs i with
 | some (.froz e t xs)=>.list e t xs
 | _=>.bot
def renC (m:Ren) (objs:Objs):CV→CV
 | .own i=>match m.new i with
   | some n=>.own n
   | none=>frozC objs i
 | .ptr i off=>match m.new i with
   | some n=>.ptr n off
   | none=>.bot
 | c=>c
def renA (m:Ren) (objs:Objs):AV→AV
 | .c x=>.c (renC m objs x)
 | .agg l=>.agg (l.map (renC m objs))
 | .view i lo hi b=>match m.new i with
   | some n=>.view n lo hi b
   | none=>.c .bot
 | .elt i j off=>match m.new i with
   | some n=>.elt n j off
   | none=>.c .bot
 | .eltv cells=>.eltv (cells.map (renC m objs))
 | .aelt i off n j=>match m.new i with
   | some i'=>.aelt i' off n j
   | none=>.c .bot
 | .tup l=>.tup (l.map fun x=>(x.1,x.2.map (renC m objs)))
 | .fn f caps=>.fn f (caps.map (renC m objs))
 | .bm f caps=>.bm f (caps.map (renC m objs))
 | .t0 e t=>.t0 e t
 | .und=>.und
 | .nz e t b=>.nz e t b
def renO (m:Ren) (objs:Objs):Obj→Obj
 | .box ty cs=>.box ty (cs.map (renC m objs))
 | o=>o
def layObjs (g:Obj→Obj) (objs:Objs):Ren→Objs→Objs
 | [],acc=>acc
 | p::r,acc=>layObjs g objs r (match oget objs p.2 with
   | some o=>oset p.1 (g o) acc
   | none=>acc)
def renObjs (m:Ren) (objs:Objs):Objs:=layObjs (renO m objs) objs m []
def nodup:List Nat→Bool
 | []=>true
 | x::r=>!r.contains x && nodup r
def Ren.stays (m:Ren) (p:Nat):Bool:=m.any fun q=>Nat.beq q.1 p && Nat.beq q.2 p
def Ren.fine (m:Ren):Bool:=nodup (m.map (·.1)) && nodup (m.map (·.2))
def nilCells:List (Option (Nat×Ty))→List CV→List CV
 | some (e,t)::q,.nil::r=>.list e t []::nilCells q r
 | _::q,c::r=>c::nilCells q r
 | _::_,[]=>[]
 | [],r=>r
def argVal (owns:Bool) (objs:Objs) (t:Option TI) (τ:Nat→Option TI) (v:AV):AV:=
 match v with
 | .c .nil=>match t with
   | some { kind:=.slice e,.. }=>match (τ e).bind (·.ty) with
     | some ty=>.c (.list e ty [])
     | none=>v
   | _=>v
 | .c (.own _)=>bif owns then v else (asVal objs v).getD (.c .bot)
 | .view ..=>(asVal objs v).getD (.c .bot)
 | .agg l=>bif owns then v else .agg (nilCells (match t with
   | some ti=>ti.cty
   | none=>[]) (l.map (cellVal objs)))
 | v=>v
def scalarC:CV→Bool
 | .int ..=>true
 | .bool _=>true
 | .str _=>true
 | _=>false
def plainC (objs:Objs):CV→Bool
 | .own i=>match oget objs i with
   | some (.row _ t _)=>scalarTy t
   | _=>false
 | c=>scalarC c
def plainA (objs:Objs):AV→Bool
 | .c x=>plainC objs x
 | .agg l=>l.all (plainC objs)
 | .tup l=>l.all fun x=>x.2.all (plainC objs)
 | .t0 _ _=>true
 | .nz _ _ _=>true
 | _=>false
def backKeys (u:Nat):Nat→Objs→Ren→Ren
 | _,[],m=>m
 | j,(i,.row ..)::r,m=>backKeys u (j+1) r (m.add (u+j) i)
 | j,(i,.box ..)::r,m=>bif m.has i then backKeys u j r m else backKeys u (j+1) r (m.add (u+j) i)
 | j,_::r,m=>backKeys u j r m
def killAll (objs:Objs):Ren→Objs→Objs
 | [],acc=>acc
 | p::r,acc=>killAll objs r (match oget objs p.2 with
   | some (.row ..)=>oset p.2 .dead acc
   | _=>acc)
def lentOf (owns:Bool):AV→List Nat
 | .view i _ _ _=>[i]
 | a=>bif owns then [] else keyOf a
def boxBack (objs:Objs):Ren→Ren
 | []=>[]
 | p::r=>match oget objs p.2 with
   | some (.box ..)=>(p.2,p.1)::boxBack objs r
   | _=>boxBack objs r
def plainO (objs:Objs):Bool:=objs.all fun p=>match p.2 with
 | .row _ t _=>scalarTy t
 | .dead=>true
 | _=>false
def nomp (objs:Objs) (m:Ren):Bool:=m.all fun p=>match oget objs p.2 with
 | some (.mp ..)=>false
 | some (.it ..)=>false
 | _=>true
def acall (G:Nat→List AV→Objs→(AV→Objs→Option R)→Option R) (owns:Nat→Nat→Bool) (u f:Nat) (argTypes:List Nat) (args:List AV) (objs:Objs) (k:AV→Objs→Option R):Option R:=
 let m:=args.zipIdx.foldl (fun m aj=>reach objs (owns f aj.2) aj.2 aj.1 m) []
 let args':=args.zipIdx.map fun aj=>renA m objs (argVal (owns f aj.2) objs (bif owns f (1000+aj.2) then none else (argTypes[aj.2]?).bind τ) τ aj.1)
 let lent:=args.zipIdx.flatMap fun aj=>lentOf (owns f aj.2) aj.1
 bif (m.fine && nomp objs m) && lent.all (fun i=>!m.has i) then
  G f args' (renObjs m objs) fun v objs'=>
    let b:=backKeys u 0 objs' (boxBack objs m)
    let base:=bif plainA objs' v && (m.isEmpty && plainO objs') then objs else freezeAll lent objs
    bif b.fine && ((List.range objs'.length).all fun j=>(oget objs (u+j)).isNone) then
     k (renA b objs' v) (layObjs (renO b objs') objs' b (killAll objs m base))
    else none
 else none
def nilArgs (own:Nat→Bool) (u:Nat) (tys:List Nat):Nat→List AV→Objs→(List AV→Objs→Option R)→Option R
 | _,[],objs,k=>k [] objs
 | j,a::r,objs,k=>
   let same:=nilArgs own u tys (j+1) r objs fun l objs=>k (a::l) objs
   match a with
   | .c .nil=>bif own j then (match (tys[j]?).bind τ with
     | some { kind:=.slice e,.. }=>match (τ e).bind (·.ty) with
       | some ty=>freshly (u+60+j) objs (nilArgs own u tys (j+1) r (oset (u+60+j) (.row e ty []) objs) fun l objs=>k (.c (.own (u+60+j))::l) objs)
       | none=>same
     | _=>same) else same
   | _=>same
def acallN (G:Nat→List AV→Objs→(AV→Objs→Option R)→Option R) (owns:Nat→Nat→Bool) (u f:Nat) (argTypes:List Nat) (args:List AV) (objs:Objs) (k:AV→Objs→Option R):Option R:=
 nilArgs τ (owns f) u argTypes 0 args objs fun args objs=>acall τ G owns u f argTypes args objs k
def abuiltin (u:Nat) (b:Builtin) (argTypes:List Nat) (args:List AV) (objs:Objs) (k:AV→Objs→Option R):Option R:=
 match b with
 | .len=>match args,argTypes with
   | [x],[t]=>alen τ t x objs fun v=>k v objs
   | _,_=>none
 | .append=>match args,argTypes with
   | [s,x],[t,t']=>bif Nat.beq t t' then aappendD τ B u t s x objs k else none
   | _,_=>none
 | .min=>amin B false args fun v=>k v objs
 | .max=>amin B true args fun v=>k v objs
 | _=>none
def viewKeys:List (Nat×AV)→List Nat
 | []=>[]
 | p::r=>match p.2 with
   | .view i _ _ _=>i::viewKeys r
   | _=>viewKeys r
def viewC (objs:Objs) (v:AV):AV:=
 match v with
 | .view i lo hi b=>(asVal objs (.view i lo hi b)).getD (.view i lo hi b)
 | v=>v
def Ty.keq:(t:Ty)→t.den→t.den→Bool
 | .int _,a,b=>decide (a=b)
 | .bool,a,b=>a == b
 | .str,a,b=>decide (a=b)
 | _,_,_=>false
def mget {V:Type} (k:Ty):List (k.den×V)→k.den→Option V
 | [],_=>none
 | e::l,x=>cond (k.keq e.1 x) (some e.2) (mget k l x)
def mput {V:Type} (k:Ty):List (k.den×V)→k.den→V→List (k.den×V)
 | [],x,y=>[(x,y)]
 | e::l,x,y=>cond (k.keq e.1 x) ((x,y)::l) (e::mput k l x y)
def scOf (t:Nat):Option Ty:=
 match τ t with
 | some { kind:=.sc,zero:=[.int k n],agg:=false,.. }=>bif decide (n=0) then some (.int k) else none
 | some { kind:=.sc,zero:=[.bool false],agg:=false,.. }=>some .bool
 | some { kind:=.sc,zero:=[.str []],agg:=false,.. }=>some .str
 | _=>none
def mapTy (t:Nat):Option (Ty×Ty):=
 match τ t with
 | some { kind:=.map k e,.. }=>match scOf τ k,scOf τ e with
   | some a,some b=>some (a,b)
   | _,_=>none
 | _=>none
def mapIs (t:Nat) (a b:Ty):Bool:=
 match mapTy τ t with
 | some (a',b')=>(Ty.same a a').isSome && (Ty.same b b').isSome
 | none=>false
def amakeMap (u t:Nat) (objs:Objs) (k:AV→Objs→Option R):Option R:=
 match mapTy τ t with
 | some (a,b)=>freshly u objs (k (.c (.own u)) (oset u (.mp t a b []) objs))
 | none=>none
def amapUpdate (t:Nat) (m key x:AV) (objs:Objs) (k:Objs→Option R):Option R:=
 match m,key,x with
 | .c (.own i),.c ck,.c cx=>match oget objs i with
   | some (.mp t' a b l)=>bif mapIs τ t a b then
      match implode a [ck],implode b [cx] with
      | some (p,[]),some (q,[])=>k (oset i (.mp t' a b (mput a l p q)) objs)
      | _,_=>none
     else none
   | _=>none
 | _,_,_=>none
def alookup (t:Nat) (m key:AV) (objs:Objs) (k:AV→Option R):Option R:=
 match m,key with
 | .c (.own i),.c ck=>match oget objs i with
   | some (.mp _ a b l)=>bif mapIs τ t a b then
      match implode a [ck] with
      | some (p,[])=>match explode b ((mget a l p).getD b.dflt) with
        | [c]=>k (.c c)
        | _=>none
      | _=>none
     else none
   | _=>none
 | _,_=>none
def arange (u t:Nat) (x:AV) (objs:Objs) (k:AV→Objs→Option R):Option R:=
 match scOf τ t,x with
 | some .str,.c (.str s)=>freshly u objs (k (.c (.own u)) (oset u (.it s 0) objs))
 | _,_=>none
def anext (B:Ops) (x:AV) (objs:Objs) (k:AV→Objs→Option R):Option R:=
 match x with
 | .c (.own i)=>match oget objs i with
   | some (.it s p)=>cond (B.lt (p:Int) (s.length:Int))
      (cond (B.lt ((s.getD p 0).toNat:Int) 128) (k (.tup [(false,[.bool true]),(false,[.int .i64 p]),(false,[.int .i32 (s.getD p 0).toNat])]) (oset i (.it s (p+1)) objs)) none)
      (k (.tup [(false,[.bool false])]) objs)
   | _=>none
 | _=>none
def aop (G:Nat→List AV→Objs→(AV→Objs→Option R)→Option R) (owns:Nat→Nat→Bool) (u:Nat) (o:Oper) (env:List AV) (objs:Objs) (k:AV→Objs→Option R):Option R:=
 match o.op with
 | .move x=>amove τ u o.type (rdop gl x env) objs k
 | .assign x=>aassign τ u o.type (o.dst.map fun d=>env.getD d (.c .bot)) (rdop gl x env) objs k
 | .pick c a b=>match rdop gl c env with
   | .c (.bool v)=>cond v (k (rdop gl a env) objs) (k (rdop gl b env) objs)
   | _=>none
 | .alloc t=>match τ t with
   | some ti=>newBox u t ti ti.zero objs k
   | none=>none
 | .box t x=>match τ t,cellsOf objs (rdop gl x env) with
   | some ti,some l=>bif Nat.beq l.length ti.size then newBox u t ti l objs k else none
   | _,_=>none
 | .build t parts=>
   let ps:=parts.toList.map fun p=>(p.1,rdop gl p.2 env)
   let ks:=viewKeys ps
   abuild τ t (ps.map fun p=>(p.1,viewC objs p.2)) (freezeAll ks objs) fun v=>k v (freezeAll ks objs)
 | .buildSlice t len parts=>abuildSlice τ u t len (parts.toList.map fun p=>(p.1,rdop gl p.2 env)) objs k
 | .load t a=>aload τ t (rdop gl a env) objs fun v=>k v objs
 | .store t a x=>astore τ u t (rdop gl a env) (rdop gl x env) objs fun objs'=>k (.c .bot) objs'
 | .nilCheck x=>match rdop gl x env with
   | .fn f caps=>k (.fn f caps) objs
   | .bm f caps=>k (.bm f caps) objs
   | v=>bif isAddr objs v then k v objs else none
 | .binOp op t x y _=>abin τ B op t (rdop gl x env) (rdop gl y env) fun v=>k v objs
 | .unOp op _ x=>aun op (rdop gl x env) fun v=>k v objs
 | .convert src dst x=>aconv τ B src dst (rdop gl x env) objs k
 | .makeFunc (.func f) first captured=>match (first.toList++captured.toList).mapM (fun x=>asC (rdop gl x env)) with
   | some caps=>bif Nat.beq first.size 0 then k (.fn f caps) objs else bif Nat.beq captured.size 0 then k (.bm f caps) objs else none
   | none=>none
 | .makeSlice t l c=>amake τ B u t (rdop gl l env) (rdop gl c env) objs k
 | .makeMap t none=>amakeMap τ u t objs k
 | .range t x=>arange τ u t (rdop gl x env) objs k
 | .next x true=>anext B (rdop gl x env) objs k
 | .mapUpdate t m key x=>amapUpdate τ t (rdop gl m env) (rdop gl key env) (rdop gl x env) objs fun objs'=>k (.c .bot) objs'
 | .lookup t m key false=>alookup τ t (rdop gl m env) (rdop gl key env) objs fun v=>k v objs
 | .slice t x lo hi mx=>aslice τ B t (rdop gl x env) (lo.map (rdop gl · env)) (hi.map (rdop gl · env)) (mx.map (rdop gl · env)) objs fun v=>k v objs
 | .fieldAddr s x f=>afieldAddr τ s (rdop gl x env) f objs fun v=>k v objs
 | .field s x f=>afield τ s (rdop gl x env) f fun v=>k v objs
 | .indexAddr t x ix=>aindexAddr τ B t (rdop gl x env) (rdop gl ix env) objs fun v=>k v objs
 | .index t x ix=>aindex τ B t (rdop gl x env) (rdop gl ix env) fun v=>k v objs
 | .extract x j=>aextract (rdop gl x env) j fun v=>k v objs
 | .call c=>match c.callee with
   | .value f=>match rdop gl f env with
     | .fn g caps=>acallN τ G owns u g (c.argTypes.toList) ((c.args.toList.map (rdop gl · env))++caps.map .c) objs k
     | .bm g caps=>acallN τ G owns u g (List.replicate caps.length 1000000++c.argTypes.toList) (caps.map .c++(c.args.toList.map (rdop gl · env))) objs k
     | _=>none
   | .builtin b=>abuiltin τ B u b c.argTypes.toList (c.args.toList.map (rdop gl · env)) objs k
   | _=>none
 | _=>none
def eput (dst:Option Nat) (v:AV) (env:List AV):List AV:=
 match dst with
 | some d=>env.set d v
 | none=>env
def standsElse (all:List Oper):Nat→Operand→Bool
 | 0,_=>true
 | n+1,.tmp t=>match all.find? (fun p=>p.dst == some t) with
   | none=>true
   | some p=>match p.op with
     | .move x=>standsElse all n x
     | .load _ _=>true
     | _=>false
 | _+1,_=>false
def sharedOf (all:List Oper) (o:Oper) (env:List AV):List Nat:=
 let vars (x:Operand):List Nat:=match x with
  | .tmp t=>bif standsElse all 4 x then keyOf (env.getD t (.c .bot)) else []
  | _=>[]
 match o.op with
 | .box _ x=>vars x
 | .store _ _ x=>vars x
 | .build _ parts=>parts.toList.flatMap fun p=>vars p.2
 | _=>[]
def aops (G:Nat→List AV→Objs→(AV→Objs→Option R)→Option R) (owns:Nat→Nat→Bool) (all:List Oper) (base:Nat):List Oper→Nat→List AV→Objs→(List AV→Objs→Option R)→Option R
 | [],_,env,objs,k=>k env objs
 | o::r,i,env,objs,k=>
   let go (env:List AV):=aop τ B gl G owns (100*(base+i)) o env (freezeAll (bif owns 7654321 0 then [] else sharedOf all o env) objs) fun v objs'=>aops G owns all base r (i+1) (eput o.dst v env) objs' k
   match o.guard with
   | none=>go env
   | some (j,want)=>
     let skip (env:List AV):=aops G owns all base r (i+1) (eput o.dst .und env) objs k
     match (all[j]?).bind (·.dst) with
     | some d=>match env.getD d (.c .bot) with
       | .c (.bool b)=>
         let yes:=env.set d (.c (.bool true))
         let no:=env.set d (.c (.bool false))
         match want with
         | true=>cond b (go yes) (skip no)
         | false=>cond b (skip yes) (go no)
       | .und=>skip env
       | _=>none
     | none=>none
def isPure (o:Op):Bool:=
 match o with
 | .convert s d _=>(sliceOf τ s).isNone && (sliceOf τ d).isNone
 | .move _ | .assign _ | .pick .. | .build .. | .nilCheck _ | .binOp .. | .unOp .. | .makeFunc .. | .slice .. | .fieldAddr .. | .field .. | .indexAddr .. | .index .. | .extract ..=>true
 | .call c=>match c.callee with
   | .builtin .len | .builtin .min | .builtin .max=>true
   | _=>false
 | _=>false
def loadOf (o:Op):Option Operand:=
 match o with
 | .load _ x=>some x
 | _=>none
def watchOf:AV→Option (List Nat)
 | .eltv _=>some []
 | .elt i _ _=>some [i]
 | .c (.ptr i _)=>some [i]
 | .aelt i _ _ _=>some [i]
 | _=>none
def steady (o:Op):Bool:=isPure τ o || (loadOf o).isSome
inductive PT where
 | done
 | op (i:Nat) (t:PT)
 | alt (t u:PT)
def PT.seq:List Nat→PT→PT
 | [],t=>t
 | i::r,t=>.op i (PT.seq r t)
def PT.lin (l:List Nat):PT:=PT.seq l .done
def PT.elems:PT→List Nat
 | .done=>[]
 | .op i t=>i::t.elems
 | .alt t _=>t.elems
def PT.heads:PT→List Nat
 | .done=>[]
 | .op i _=>[i]
 | .alt t u=>t.heads++u.heads
def PT.len:PT→Nat
 | .done=>0
 | .op _ t=>t.len+1
 | .alt t u=>max t.len u.len
theorem agree_ex:∃ f:(∀ R:Type,Option R→Option R→Option R),(∀ R x y r,f R x y=some r→x=some r∧y=some r)∧∀ R x,f R x x=x:=
 ⟨fun R x y=>@ite _ (x=y) (Classical.propDecidable _) x none,fun R x y r h=>by
   by_cases hx:x=y
   ·subst hx;simp at h;exact ⟨h,h⟩
   ·simp [hx] at h,fun R x=>by simp⟩
noncomputable def agree {R:Type} (x y:Option R):Option R:=Classical.choose agree_ex R x y
theorem agree_some {R:Type} {x y:Option R} {r:R} (h:agree x y=some r):x=some r∧y=some r:=(Classical.choose_spec agree_ex).1 R x y r h
def aftHit (ops:Array Oper) (i:Nat) (acc:List Nat) (j:Nat):Bool:=
 match ops.toList[j]? with
 | some o=>o.after.any fun e=>Region.binds .any e && (Nat.beq e.on i || acc.contains e.on)
 | none=>false
def aftStep (ops:Array Oper) (i:Nat) (acc:List Nat) (j:Nat):List Nat:=bif aftHit ops i acc j then j::acc else acc
def aftL (ops:Array Oper) (i:Nat):List Nat:=(List.range ops.size).foldl (aftStep ops i) []
def afterOf (ops:Array Oper) (j i:Nat):Bool:=(aftL ops i).contains j
def aftOk (ops:Array Oper) (i:Nat) (listed:Array Bool):Bool:=(aftL ops i).all fun k=>!listed.getD k false
def same (l:List Nat):Ren:=l.map fun k=>(k,k)
def liveKey (objs:Objs) (i:Nat):Bool:=
 match oget objs i with
 | some (.row ..)=>true
 | some (.box ..)=>true
 | _=>false
def aframed (G:Nat→List AV→Objs→(AV→Objs→Option R)→Option R) (owns:Nat→Nat→Bool) (u:Nat) (o:Oper) (wt:List Nat) (env:List AV) (objs:Objs) (k:AV→Objs→Option R):Option R:=
 let m:=same ((objs.map (·.1)).filter fun i=>!wt.contains i)
 let wt':=wt.eraseDups
 bif m.fine && (nodup wt' && wt'.all (liveKey objs)) then
  aop τ B gl G owns u o (env.map (renA m objs)) (renObjs m objs) fun v objs'=>
   bif wt'.all fun i=>(oget objs' i).isNone then k v (layObjs id objs (same wt') objs') else none
 else none
def addR:Objs→Objs→Objs
 | [],objs=>objs
 | p::r,objs=>addR r (oset p.1 p.2 objs)
def plnC:CV→Bool
 | .int _ _=>true
 | .str _=>true
 | .bool _=>true
 | .list _ _ _=>true
 | .nil=>true
 | _=>false
def plnV:AV→Bool
 | .c c=>plnC c
 | .agg l=>l.all plnC
 | _=>false
def bxRows (u:Nat):Nat→List CV→List (Option (Nat×Ty))→Objs
 | j,.nil::r,some (e,t)::q=>(u+j,.row e t [])::bxRows u (j+1) r q
 | j,_::r,_::q=>bxRows u (j+1) r q
 | _,_,_=>[]
def freshOf (u:Nat) (o:Oper) (env:List AV):Option (AV×Objs):=
 match o.op with
 | .buildSlice t len parts=>match τ t with
   | some { kind:=.slice e,.. }=>match (τ e).bind (·.ty) with
     | some ty=>bif (Nat.beq len (parts.toList.map fun p=>(p.1,rdop gl p.2 env)).length && Nat.ble (len*ty.sz) 16777216) && (parts.toList.map fun p=>(p.1,rdop gl p.2 env)).all fun p=>plnV p.2 then
        match elems ty (parts.toList.map fun p=>(p.1,rdop gl p.2 env)) 0 [] with
        | some (xs,_)=>some (.c (.own u),[(u,.row e ty xs)])
        | none=>none
       else none
     | none=>none
   | _=>none
 | .alloc t=>match τ t with
   | some ti=>bif (List.range (ti.zero.length+1)).all fun j=>Nat.beq j 0 || (bxRows (u+1) 0 ti.zero ti.cty).any fun p=>Nat.beq p.1 (u+j) then
      some (.c (.ptr u 0),bxRows (u+1) 0 ti.zero ti.cty++[(u,.box t (boxCells (u+1) 0 ti.zero ti.cty []).1)])
     else none
   | none=>none
 | _=>none
abbrev Fr:=Nat×Nat×AV×Objs
def rowsOf (D:List Fr):Objs:=D.flatMap (·.2.2.2)
def indepB (o:Oper) (ds:List Nat):Bool:=
 match o.op with
 | .buildSlice _ _ parts=>parts.toList.all fun p=>match p.2 with
   | .tmp t=>!ds.contains t
   | _=>true
 | _=>true
def planB (ops:Array Oper):PT→Bool→Array Bool→Bool
 | .done,alt,listed=>!alt && (Region.ready .any ops listed).isEmpty
 | .op i t,alt,listed=>match ops.toList[i]? with
   | none=>false
   | some o=>(Region.ready .any ops listed).contains i && ((bif steady τ o.op then !alt && Region.free .any ops listed i else alt || (Region.ready .any ops listed).all fun j=>Nat.beq j i) &&
      (((List.range ops.size).all fun j=>Nat.beq j i || (listed.getD j true || t.elems.contains j)) && ((bif (loadOf o.op).isSome then aftOk ops i listed else true) && planB ops t false (listed.setIfInBounds i true))))
 | .alt t u,alt,listed=>(alt || (Region.ready .any ops listed).all fun j=>(t.heads++u.heads).contains j) && (planB ops t true listed && planB ops u true listed)
noncomputable def adraw (G:Nat→List AV→Objs→(AV→Objs→Option R)→Option R) (owns:Nat→Nat→Bool) (ops:Array Oper) (base:Nat):PT→List (Nat×Nat)→List AV→Objs→(List AV→Objs→Option R)→Option R
 | .done,_,env,objs,k=>k env objs
 | .alt t u,watch,env,objs,k=>agree (adraw G owns ops base t watch env objs k) (adraw G owns ops base u watch env objs k)
 | .op i r,watch,env,objs,k=>
   match ops.toList[i]? with
   | none=>none
   | some o=>
     let go (env:List AV):=
      bif steady τ o.op then
       match loadOf o.op with
       | none=>aop τ B gl G owns (100*(base+i)) o env objs fun v objs'=>adraw G owns ops base r watch (eput o.dst v env) objs' k
       | some x=>match watchOf (rdop gl x env) with
         | some ks=>aop τ B gl G owns (100*(base+i)) o env objs fun v objs'=>
            adraw G owns ops base r ((ks.flatMap fun κ=>(r.elems.filter fun j=>!afterOf ops j i).map fun j=>(j,κ))++watch) (eput o.dst v env) objs' k
         | none=>none
      else aframed τ B gl G owns (100*(base+i)) o ((watch.filter fun p=>Nat.beq p.1 i).map (·.2)) env objs fun v objs'=>adraw G owns ops base r watch (eput o.dst v env) objs' k
     match o.guard with
     | none=>go env
     | some (j,want)=>match (ops.toList[j]?).bind (·.dst) with
       | some d=>match env.getD d (.c .bot) with
         | .c (.bool b)=>
           let yes:=env.set d (.c (.bool true))
           let no:=env.set d (.c (.bool false))
           match want with
           | true=>cond b (go yes) (adraw G owns ops base r watch (eput o.dst .und no) objs k)
           | false=>cond b (adraw G owns ops base r watch (eput o.dst .und yes) objs k) (go no)
         | .und=>adraw G owns ops base r watch (eput o.dst .und env) objs k
         | _=>none
       | none=>none
def keepOf (rs:List ResultVar):List Nat:=rs.map fun
 | .tmp t=>t
 | .cell t _=>t
def wipeGo:List Nat→Nat→List AV→List AV
 | _,_,[]=>[]
 | l,i,v::env=>match l with
   | []=>v::env
   | d::ds=>bif Nat.beq d i then .c .bot::wipeGo ds (i+1) env else v::wipeGo l (i+1) env
def wipe (l:List Nat) (env:List AV):List AV:=wipeGo l 0 env
def headSt (pk:List Nat) (dead:List Nat) (s:List AV×Objs) (k:List AV×Objs→Option R):Option R:=
 let env:=wipe dead s.1
 let m0:Ren:=pk.foldl (fun m p=>ptrKeys s.2 p p m) []
 let m:=env.zipIdx.foldl (fun m aj=>reach s.2 true aj.2 aj.1 m) m0
 bif m.fine && pk.all m.stays then k (env.map (renA m s.2),renObjs m s.2) else none
def know (c:Operand) (b:Bool) (env:List AV):List AV:=
 match c with
 | .tmp t=>env.set t (.c (.bool b))
 | _=>env
structure Aux where
 dead:List (Nat×List Nat)
 plan:List (Nat×PT)
def look (l:List (Nat×List Nat)) (i:Nat):List Nat:=
 match l with
 | []=>[]
 | p::r=>bif Nat.beq p.1 i then p.2 else look r i
def lookP (l:List (Nat×PT)) (i:Nat):PT:=
 match l with
 | []=>.done
 | p::r=>bif Nat.beq p.1 i then p.2 else lookP r i
def firstReg:Code→Nat
 | .region id _ _=>id
 | .seq a b=>let x:=firstReg a;bif Nat.beq x 99999 then firstReg b else x
 | .cond _ a b=>let x:=firstReg a;bif Nat.beq x 99999 then firstReg b else x
 | .block _ b=>firstReg b
 | .loop b=>firstReg b
 | .scope b=>firstReg b
 | .rangeFunc _ _ _ b=>firstReg b
 | _=>99999
def okC (p:List (Nat×PT)):Code→Bool
 | .region id ops draw=>bif draw then Region.noSelect ops && (planB τ ops (lookP p id) false (Array.replicate ops.size false) && Nat.ble (lookP p id).len ops.size) else true
 | .seq a b=>okC p a && okC p b
 | .cond _ a b=>okC p a && okC p b
 | .block _ b=>okC p b
 | .loop b=>okC p b
 | .scope b=>okC p b
 | .rangeFunc _ _ a b=>okC p a && okC p b
 | _=>true
def okI (p:List (Nat×PT)):Item→Bool
 | .code c=>okC τ p c
 | .inLoop c=>okC τ p c
 | _=>true
def okF (X:Aux) (fn:Func):Bool:=
 match fn.body with
 | some c=>okC τ X.plan c
 | none=>true
def isCut (X:Aux) (id:Nat):Bool:=X.dead.any fun p=>Nat.beq p.1 (1000000+id)
def noDefer (ops:Array Oper):Bool:=ops.toList.all fun o=>match o.op with
 | .defer _=>false
 | _=>true
def lineC (X:Aux) (rt:Bool):Code→Bool
 | .skip=>true
 | .label _=>true
 | .region id ops draw=>!isCut X id && (bif draw then !rt && noDefer ops else true)
 | .seq a b=>lineC X rt a && lineC X rt b
 | .cond _ a b=>lineC X rt a && lineC X rt b
 | .block _ b=>lineC X rt b
 | .exit _=>true
 | .ret=>rt
 | _=>false
def lineI (X:Aux) (rt:Bool):Item→Bool
 | .code c=>lineC X rt c
 | .inBlock _=>true
 | _=>false
def stableC (objs:Objs):CV→Bool
 | .ptr i _=>match oget objs i with
   | some (.box ..)=>true
   | _=>false
 | .own _=>false
 | _=>true
def stableA (objs:Objs):AV→Bool
 | .c x=>stableC objs x
 | .fn _ caps=>caps.all (stableC objs)
 | .bm _ caps=>caps.all (stableC objs)
 | _=>false
def restA (objs:Objs) (env:List AV):List AV:=env.map fun v=>bif stableA objs v then v else .c .bot
def two2 (ps:Array Tmp) (k:Nat→Nat→Option R):Option R:=
 match ps.toList with
 | [p,q]=>k p q
 | _=>none
def backRow (owns:Nat→Nat→Bool) (g:Operand) (s:List AV×Objs) (k:List Int→Option R):Option R:=
 match rdop gl g s.1 with
 | .fn f [.ptr m 0]=>bif owns f 8765432 then match oget s.2 m with
    | some (.box _ [.list _ (.int .i64) xs])=>k xs
    | _=>none else none
 | _=>none
noncomputable def seg (X:Aux) (G:Nat→List AV→Objs→(AV→Objs→Option R)→Option R) (owns:Nat→Nat→Bool) (keep pk:List Nat) (fin:List AV×Objs→Option R) (again:Bool→Code→List Item→List AV×Objs→Option R):Nat→List Item→List AV×Objs→Option R
 | 0,_,_=>none
 | _+1,[],s=>fin s
 | c+1,x::r,s=>match x with
   | .code y=>match y with
     | .skip=>seg X G owns keep pk fin again c r s
     | .label _=>seg X G owns keep pk fin again c r s
     | .region id ops draw=>bif isCut X id then headSt pk (look X.dead (1000000+id)) s fun s1=>again true (.region id ops draw) r s1 else bif draw then adraw τ B gl G owns ops (100*(id+1)) (lookP X.plan id) [] s.1 s.2 fun env objs=>seg X G owns keep pk fin again c r (env,objs) else aops τ B gl G owns ops.toList (100*(id+1)) ops.toList 0 s.1 s.2 fun env objs=>seg X G owns keep pk fin again c r (env,objs)
     | .seq a b=>seg X G owns keep pk fin again c (.code a::.code b::r) s
     | .cond z a b=>match rdop gl z s.1 with
       | .c (.bool v)=>cond v (seg X G owns keep pk fin again c (.code a::r) (know z true s.1,s.2)) (seg X G owns keep pk fin again c (.code b::r) (know z false s.1,s.2))
       | _=>none
     | .block id b=>seg X G owns keep pk fin again c (.code b::.inBlock id::r) s
     | .loop b=>headSt pk (look X.dead (firstReg b)) s fun s1=>again false b r s1
     | .exit id=>match exitTo id r with
       | some r'=>seg X G owns keep pk fin again c r' s
       | none=>none
     | .ret=>fin s
     | .rangeFunc g ps a b=>bif lineC X false a && lineC X false b && r.all (lineI X true) then headSt pk (look X.dead (3000000+firstReg b)) s fun s1=>backRow gl owns g s1 fun xs=>two2 ps fun p _=>again true (.rangeFunc g ps a b) r (s1.1.set p (.c (.int .i64 ((xs.length:Int)-1))),s1.2) else none
     | _=>none
   | .inBlock _=>seg X G owns keep pk fin again c r s
   | .inLoop b=>headSt pk (look X.dead (firstReg b)) s fun s1=>again false b r s1
   | _=>none
noncomputable def cutRun (X:Aux) (G:Nat→List AV→Objs→(AV→Objs→Option R)→Option R) (owns:Nat→Nat→Bool) (keep pk:List Nat) (fin:List AV×Objs→Option R) (again:Bool→Code→List Item→List AV×Objs→Option R) (b:Code) (r:List Item) (s:List AV×Objs):Option R:=
 match b with
 | .region id ops draw=>bif draw then adraw τ B gl G owns ops (100*(id+1)) (lookP X.plan id) [] s.1 s.2 fun env objs=>seg τ B gl X G owns keep pk fin again 4000 r (env,objs) else aops τ B gl G owns ops.toList (100*(id+1)) ops.toList 0 s.1 s.2 fun env objs=>seg τ B gl X G owns keep pk fin again 4000 r (env,objs)
 | .rangeFunc g ps a b=>two2 ps fun p q=>backRow gl owns g (s.1.set p (.c .bot),s.2) fun xs=>match s.1.getD p (.c .bot) with
   | .c (.int .i64 i)=>cond (B.lt i 0) (seg τ B gl X G owns keep pk fin again 4000 r (s.1.set p (.c .bot),s.2))
      (cond (B.lt i (xs.length:Int)) (seg τ B gl X G owns keep pk (fun s1=>seg τ B gl X G owns keep pk (fun s2=>headSt pk (look X.dead (3000000+firstReg b)) (restA s.2 (s.1.set p (.c .bot)),s2.2) fun s3=>again true (.rangeFunc g ps a b) r (s3.1.set p (.c (.int .i64 (i-1))),s3.2)) again 4000 [.code b] s1) again 4000 [.code a] (s.1.set q (.c (.int .i64 (xs.getD i.toNat 0))),s.2)) none)
   | _=>none
 | _=>none
noncomputable def arun (X:Aux) (G:Nat→List AV→Objs→(AV→Objs→Option R)→Option R) (owns:Nat→Nat→Bool) (keep pk:List Nat) (fin:List AV×Objs→Option R):Nat→Bool→Code→List Item→List AV×Objs→Option R
 | 0,_,_,_,_=>none
 | n+1,cut,b,r,s=>bif cut then cutRun τ B gl X G owns keep pk fin (arun X G owns keep pk fin n) b r s else seg τ B gl X G owns keep pk fin (arun X G owns keep pk fin n) 4000 (.code b::.inLoop b::r) s
def aresult (env:List AV) (objs:Objs):ResultVar→Option AV
 | .tmp t=>some (env.getD t (.c .bot))
 | .cell p t=>match τ t with
   | some ti=>match cellsAt objs ti.size (env.getD p (.c .bot)) with
     | some l=>ofCells ti l
     | none=>none
   | none=>none
def aresults (rs:List ResultVar) (env:List AV) (objs:Objs):Option AV:=
 match rs with
 | [r]=>aresult τ env objs r
 | rs=>match rs.mapM fun r=>match aresult τ env objs r with
    | some (.c x)=>some (false,[x])
    | some (.agg l)=>some (true,l)
    | _=>none with
   | some l=>some (.tup l)
   | none=>none
def isVal (X:Aux):Bool:=X.dead.any fun p=>Nat.beq p.1 2000000
def ownKeys (l:List CV):List Nat:=l.filterMap fun | .own i=>some i | _=>none
def finKeys:AV→List Nat
 | .tup l=>l.flatMap fun p=>ownKeys p.2
 | v=>keyOf v
def finCells (objs:Objs):AV→AV
 | .agg l=>.agg (l.map (cellVal objs))
 | .tup l=>.tup (l.map fun p=>(p.1,p.2.map (cellVal objs)))
 | v=>(asVal objs v).getD v
def finVal (val:Bool) (v:AV) (objs:Objs):AV×Objs:=bif val then (finCells objs v,freezeAll (finKeys v) objs) else (v,objs)
def afin (val:Bool) (pk:List Nat) (rs:List ResultVar) (k:AV→Objs→Option R) (s:List AV×Objs):Option R:=
 match aresults τ rs s.1 s.2 with
 | some v0=>
   let z:=finVal val v0 s.2
   let m0:Ren:=pk.foldl (fun m p=>ptrKeys z.2 p p m) []
   let m:=reach z.2 true 500 z.1 m0
   bif m.fine && pk.all m.stays then k (renA m z.2 z.1) (renObjs m z.2) else none
 | none=>none
def pkOf (objs:Objs):List Nat:=objs.filterMap fun p=>match p.2 with
 | .box ..=>some p.1
 | _=>none
noncomputable def afun (X:Aux) (G:Nat→List AV→Objs→(AV→Objs→Option R)→Option R) (owns:Nat→Nat→Bool) (fn:Func) (args:List AV) (objs:Objs) (k:AV→Objs→Option R) (n:Nat):Option R:=
 match fn.body with
 | some c=>seg τ B gl X G owns (keepOf fn.results.toList) (pkOf objs) (afin τ (isVal X) (pkOf objs) fn.results.toList k) (arun τ B gl X G owns (keepOf fn.results.toList) (pkOf objs) (afin τ (isVal X) (pkOf objs) fn.results.toList k) n) 4000 [.code c] (args++List.replicate (fn.ntmps-args.length) (.c .bot),objs)
 | none=>none
def loopsIn:Code→List Item→List (Code×List Item)
 | .seq a b,r=>loopsIn a (.code b::r)++loopsIn b r
 | .cond _ a b,r=>loopsIn a r++loopsIn b r
 | .block id b,r=>loopsIn b (.inBlock id::r)
 | .loop b,r=>(b,r)::loopsIn b (.inLoop b::r)
 | _,_=>[]
def loopOf (fn:Func) (i:Nat):Code×List Item:=match fn.body with
 | some c=>(loopsIn c []).getD i (.skip,[])
 | none=>(.skip,[])
def cutsIn:Code→List Item→List (Code×List Item)
 | .region id ops d,r=>[(.region id ops d,r)]
 | .seq a b,r=>cutsIn a (.code b::r)++cutsIn b r
 | .cond _ a b,r=>cutsIn a r++cutsIn b r
 | .block id b,r=>cutsIn b (.inBlock id::r)
 | .loop b,r=>cutsIn b (.inLoop b::r)
 | .rangeFunc g ps a b,r=>[(.rangeFunc g ps a b,r)]
 | _,_=>[]
def cutFind (id:Nat):List (Code×List Item)→Code×List Item
 | []=>(.skip,[])
 | p::l=>bif Nat.beq (firstReg p.1) id then p else cutFind id l
def cutOf (fn:Func) (id:Nat):Code×List Item:=match fn.body with
 | some c=>cutFind id (cutsIn c [])
 | none=>(.skip,[])
noncomputable def aloop (X:Aux) (G:Nat→List AV→Objs→(AV→Objs→Option R)→Option R) (owns:Nat→Nat→Bool) (pk:List Nat) (fn:Func) (k:AV→Objs→Option R) (i:Nat) (s:List AV×Objs) (n:Nat):Option R:=
 bif Nat.blt i 1000 then arun τ B gl X G owns (keepOf fn.results.toList) pk (afin τ (isVal X) pk fn.results.toList k) n false (loopOf fn i).1 (loopOf fn i).2 s
 else arun τ B gl X G owns (keepOf fn.results.toList) pk (afin τ (isVal X) pk fn.results.toList k) n true (cutOf fn (i-1000)).1 (cutOf fn (i-1000)).2 s
end
end Go.Proofs.YtkmpkebaloejhaaGreatDoor.Av
