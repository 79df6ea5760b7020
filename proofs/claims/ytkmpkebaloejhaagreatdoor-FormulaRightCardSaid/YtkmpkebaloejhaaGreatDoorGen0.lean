/- What printed functions are made of: binds,and how arguments are read. Conditions: none. -/
import Derived.Test.YtkmpkebaloejhaaGreatDoorAv18
import Derived.Test.YtkmpkebaloejhaaGreatDoorBack
namespace Go.Proofs.YtkmpkebaloejhaaGreatDoor.Av
open Go
def owIn:List (Nat×Nat)→Nat→Nat→Bool
 | [],_,_=>false
 | p::r,f,i=>bif Nat.beq p.1 f then bif Nat.beq p.2 i then true else owIn r f i else owIn r f i
def ow (f i:Nat):Bool:=owIn owL f i
theorem owIn_mem {f i:Nat}:∀ {l:List (Nat×Nat)},owIn l f i=true→(f,i)∈l
 | [],h=>by cases h
 | p::r,h=>by
   unfold owIn at h
   cases h1:Nat.beq p.1 f with
   | false=>rw [h1] at h;exact List.mem_cons_of_mem _ (owIn_mem h)
   | true=>
     rw [h1] at h
     cases h2:Nat.beq p.2 i with
     | false=>rw [h2] at h;exact List.mem_cons_of_mem _ (owIn_mem h)
     | true=>
       have e1:=Nat.eq_of_beq_eq_true h1
       have e2:=Nat.eq_of_beq_eq_true h2
       subst e1;subst e2
       exact List.mem_cons_self
theorem back_ok:∀ f,ow f 8765432=true→BackOk Tryz.prog f:=fun f h=>back_all f (owIn_mem h)
def X0:Aux:=⟨[],[]⟩
def mk (n:Nat) (l:List (Nat×AV)):List AV:=(List.range n).map fun i=>((l.find? fun p=>Nat.beq p.1 i).map (·.2)).getD (.c .bot)
abbrev Ent (R:Type):=List AV→Objs→(AV→Objs→Option R)→Option R
abbrev Gam (R:Type):=Nat→List AV→Objs→(AV→Objs→Option R)→Option R
def gnil {R:Type}:Gam R:=fun _ _ _ _=>none
def ent {R:Type} (f0:Nat) (E:Ent R) (G:Gam R):Gam R:=fun f a o k=>bif Nat.beq f f0 then E a o k else G f a o k
def EOk {R:Type} (f:Nat) (E:Ent R):Prop:=∀ args objs k r,E args objs k=some r→∃ v o',k v o'=some r∧Spec Tryz.prog gl0 f args objs v o'
theorem qad {R:Type}:GOk Tryz.prog gl0 (gnil (R:=R)):=fun f a o k r h=>by cases h
theorem qab {R:Type} {f0:Nat} {E:Ent R} {G:Gam R} (hE:EOk f0 E) (hG:GOk Tryz.prog gl0 G):GOk Tryz.prog gl0 (ent f0 E G):=fun f a o k r h=>by
 unfold ent at h
 cases hb:Nat.beq f f0 with
 | true=>rw [hb] at h;have:=Nat.eq_of_beq_eq_true hb;subst this;exact hE a o k r h
 | false=>rw [hb] at h;exact hG f a o k r h
abbrev AO:=AV×Objs
abbrev k0:AV→Objs→Option AO:=fun v o=>some (v,o)
theorem qae {G:Gam AO} (hG:GOk Tryz.prog gl0 G) {f:Nat} {fn:Func} {args:List AV} {objs objs':Objs} {v:AV} (n:Nat) (hf:Tryz.prog.funcs[f]?=some fn) (hname:(fn.name == "runtime.NumGoroutine")=false) {X:Aux} (hX:okF tau X fn=true)
  (h:afun tau Ops.std gl0 X G ow fn args objs k0 n=some (v,objs')):Spec Tryz.prog gl0 f args objs v objs':=afun_ok mixed_ok Ops.std_ok tau_ok hG back_ok hX hf hname h
theorem qag {n:Nat} (h:n<9223372036854775807):IntKind.i64.wrap ((n:Int)+1)=((n+1:Nat):Int):=by rw [wrap_id (by omega) (by omega)];omega
theorem qew {s:List UInt8} {n:Nat} (h:n<s.length):s.drop n=s.getD n 0::s.drop (n+1):=by
 rw [List.drop_eq_getElem_cons h]
 congr 1
 simp [List.getD_eq_getElem?_getD,List.getElem?_eq_getElem h]
abbrev mt (α:Type):List α:=[]
def ob {α R:Type} (m:Option α) (f:α→Option R):Option R:=
 match m with
 | some a=>f a
 | none=>none
theorem qdm {α R:Type} {m:Option α} {f:α→Option R} {r:R} (h:ob m f=some r):∃ a,m=some a∧f a=some r:=by
 cases m with
 | none=>cases h
 | some a=>exact ⟨a,rfl,h⟩
theorem qac {α R:Type} {c:Bool} {x y:Option R} {x' y':Option α} {k:α→Option R} (hx:x=ob x' k) (hy:y=ob y' k):cond c x y=ob (cond c x' y') k:=by cases c<;>simpa
theorem qai {α β R:Type} {m:Option β} {f:β→Option R} {f':β→Option α} {k:α→Option R} (h:∀ a,f a=ob (f' a) k):ob m f=ob (ob m f') k:=by
 cases m with
 | none=>rfl
 | some a=>exact h a
section
variable {R:Type} {r:R}
def oCons (l:List AV) (f:AV→List AV→Option R):Option R:=
 match l with
 | a::r=>f a r
 | []=>none
theorem qdn {l:List AV} {f:AV→List AV→Option R} (h:oCons l f=some r):∃ a q,l=a::q∧f a q=some r:=by
 cases l with
 | nil=>cases h
 | cons a q=>exact ⟨a,q,rfl,h⟩
def oNil (l:List AV) (f:Option R):Option R:=
 match l with
 | []=>f
 | _::_=>none
theorem oNil_some {l:List AV} {f:Option R} (h:oNil l f=some r):l=[]∧f=some r:=by
 cases l with
 | nil=>exact ⟨rfl,h⟩
 | cons=>cases h
def oNilO (l:Objs) (f:Option R):Option R:=
 match l with
 | []=>f
 | _::_=>none
theorem oNilO_some {l:Objs} {f:Option R} (h:oNilO l f=some r):l=[]∧f=some r:=by
 cases l with
 | nil=>exact ⟨rfl,h⟩
 | cons=>cases h
def cList (e:Nat) (t:Ty) (a:CV) (f:List t.den→Option R):Option R:=
 match a with
 | .list e' t' xs=>match Ty.same t' t with
   | some ⟨h⟩=>bif Nat.beq e' e then f (h ▸ xs) else none
   | none=>none
 | _=>none
theorem cList_some {e:Nat} {t:Ty} {a:CV} {f:List t.den→Option R} (h:cList e t a f=some r):∃ xs,a=.list e t xs∧f xs=some r:=by
 unfold cList at h
 split at h
 ·rename_i e' t' xs
  split at h
  ·rename_i hs heq
   subst hs
   cases hb:Nat.beq e' e with
   | false=>rw [hb] at h;cases h
   | true=>
     rw [hb] at h
     have:=Nat.eq_of_beq_eq_true hb
     subst this
     exact ⟨xs,rfl,h⟩
  ·cases h
 ·cases h
def cInt (k:IntKind) (a:CV) (f:Int→Option R):Option R:=
 match a with
 | .int k' n=>if k'=k then f n else none
 | _=>none
theorem cInt_some {k:IntKind} {a:CV} {f:Int→Option R} (h:cInt k a f=some r):∃ n,a=.int k n∧f n=some r:=by
 unfold cInt at h
 split at h
 ·split at h
  ·rename_i hk;subst hk;exact ⟨_,rfl,h⟩
  ·cases h
 ·cases h
def cBool (a:CV) (f:Bool→Option R):Option R:=
 match a with
 | .bool b=>f b
 | _=>none
theorem cBool_some {a:CV} {f:Bool→Option R} (h:cBool a f=some r):∃ n,a=.bool n∧f n=some r:=by
 unfold cBool at h
 split at h
 ·exact ⟨_,rfl,h⟩
 ·cases h
def cStr (a:CV) (f:List UInt8→Option R):Option R:=
 match a with
 | .str b=>f b
 | _=>none
theorem cStr_some {a:CV} {f:List UInt8→Option R} (h:cStr a f=some r):∃ n,a=.str n∧f n=some r:=by
 unfold cStr at h
 split at h
 ·exact ⟨_,rfl,h⟩
 ·cases h
def cOwn (i:Nat) (a:CV) (f:Option R):Option R:=
 match a with
 | .own j=>bif Nat.beq j i then f else none
 | _=>none
theorem cOwn_some {i:Nat} {a:CV} {f:Option R} (h:cOwn i a f=some r):a=.own i∧f=some r:=by
 unfold cOwn at h
 split at h
 ·rename_i j
  cases hb:Nat.beq j i with
  | false=>rw [hb] at h;cases h
  | true=>rw [hb] at h;exact ⟨by rw [Nat.eq_of_beq_eq_true hb],h⟩
 ·cases h
def cPtr (i:Nat) (a:CV) (f:Option R):Option R:=
 match a with
 | .ptr j 0=>bif Nat.beq j i then f else none
 | _=>none
theorem cPtr_some {i:Nat} {a:CV} {f:Option R} (h:cPtr i a f=some r):a=.ptr i 0∧f=some r:=by
 unfold cPtr at h
 split at h
 ·rename_i j
  cases hb:Nat.beq j i with
  | false=>rw [hb] at h;cases h
  | true=>rw [hb] at h;exact ⟨by rw [Nat.eq_of_beq_eq_true hb],h⟩
 ·cases h
def oC (a:AV) (f:CV→Option R):Option R:=
 match a with
 | .c x=>f x
 | _=>none
theorem oC_some {a:AV} {f:CV→Option R} (h:oC a f=some r):∃ x,a=.c x∧f x=some r:=by
 unfold oC at h
 split at h
 ·exact ⟨_,rfl,h⟩
 ·cases h
def oAgg (a:AV) (f:List CV→Option R):Option R:=
 match a with
 | .agg x=>f x
 | _=>none
theorem oAgg_some {a:AV} {f:List CV→Option R} (h:oAgg a f=some r):∃ x,a=.agg x∧f x=some r:=by
 unfold oAgg at h
 split at h
 ·exact ⟨_,rfl,h⟩
 ·cases h
def oFn (g:Nat) (a:AV) (f:Option R):Option R:=
 match a with
 | .fn g' []=>bif Nat.beq g' g then f else none
 | _=>none
theorem oFn_some {g:Nat} {a:AV} {f:Option R} (h:oFn g a f=some r):a=.fn g []∧f=some r:=by
 unfold oFn at h
 split at h
 ·rename_i j
  cases hb:Nat.beq j g with
  | false=>rw [hb] at h;cases h
  | true=>rw [hb] at h;exact ⟨by rw [Nat.eq_of_beq_eq_true hb],h⟩
 ·cases h
def oFnC (g:Nat) (a:AV) (f:List CV→Option R):Option R:=
 match a with
 | .fn g' l=>bif Nat.beq g' g then f l else none
 | _=>none
theorem oFnC_some {g:Nat} {a:AV} {f:List CV→Option R} (h:oFnC g a f=some r):∃ l,a=.fn g l∧f l=some r:=by
 unfold oFnC at h
 split at h
 ·rename_i j l
  cases hb:Nat.beq j g with
  | false=>rw [hb] at h;cases h
  | true=>rw [hb] at h;exact ⟨l,by rw [Nat.eq_of_beq_eq_true hb],h⟩
 ·cases h
def oBmC (g:Nat) (a:AV) (f:List CV→Option R):Option R:=
 match a with
 | .bm g' l=>bif Nat.beq g' g then f l else none
 | _=>none
theorem oBmC_some {g:Nat} {a:AV} {f:List CV→Option R} (h:oBmC g a f=some r):∃ l,a=.bm g l∧f l=some r:=by
 unfold oBmC at h
 split at h
 ·rename_i j l
  cases hb:Nat.beq j g with
  | false=>rw [hb] at h;cases h
  | true=>rw [hb] at h;exact ⟨l,by rw [Nat.eq_of_beq_eq_true hb],h⟩
 ·cases h
def cCons (l:List CV) (f:CV→List CV→Option R):Option R:=
 match l with
 | a::r=>f a r
 | []=>none
theorem cCons_some {l:List CV} {f:CV→List CV→Option R} (h:cCons l f=some r):∃ a q,l=a::q∧f a q=some r:=by
 cases l with
 | nil=>cases h
 | cons a q=>exact ⟨a,q,rfl,h⟩
def cNil (l:List CV) (f:Option R):Option R:=
 match l with
 | []=>f
 | _::_=>none
theorem cNil_some {l:List CV} {f:Option R} (h:cNil l f=some r):l=[]∧f=some r:=by
 cases l with
 | nil=>exact ⟨rfl,h⟩
 | cons=>cases h
def oBox (i ty:Nat) (o:Objs) (f:List CV→Objs→Option R):Option R:=
 match o with
 | (j,.box ty' cs)::q=>bif Nat.beq j i && Nat.beq ty' ty then f cs q else none
 | _=>none
theorem oBox_some {i ty:Nat} {o:Objs} {f:List CV→Objs→Option R} (h:oBox i ty o f=some r):∃ cs q,o=(i,.box ty cs)::q∧f cs q=some r:=by
 unfold oBox at h
 split at h
 ·rename_i j ty' cs q
  cases hb:Nat.beq j i && Nat.beq ty' ty with
  | false=>rw [hb] at h;cases h
  | true=>
    rw [hb] at h
    simp only [Bool.and_eq_true] at hb
    exact ⟨cs,q,by rw [Nat.eq_of_beq_eq_true hb.1,Nat.eq_of_beq_eq_true hb.2],h⟩
 ·cases h
def oRow (i e:Nat) (t:Ty) (o:Objs) (f:List t.den→Objs→Option R):Option R:=
 match o with
 | (j,.row e' t' xs)::q=>match Ty.same t' t with
   | some ⟨h⟩=>bif Nat.beq j i && Nat.beq e' e then f (h ▸ xs) q else none
   | none=>none
 | _=>none
theorem oRow_some {i e:Nat} {t:Ty} {o:Objs} {f:List t.den→Objs→Option R} (h:oRow i e t o f=some r):∃ xs q,o=(i,.row e t xs)::q∧f xs q=some r:=by
 unfold oRow at h
 split at h
 ·rename_i j e' t' xs q
  split at h
  ·rename_i hs heq
   subst hs
   cases hb:Nat.beq j i && Nat.beq e' e with
   | false=>rw [hb] at h;cases h
   | true=>
     rw [hb] at h
     simp only [Bool.and_eq_true] at hb
     exact ⟨xs,q,by rw [Nat.eq_of_beq_eq_true hb.1,Nat.eq_of_beq_eq_true hb.2],h⟩
  ·cases h
 ·cases h
end
def isFn (g:Nat) (a:Option AV):Bool:=
 match a with
 | some (.fn g' _)=>Nat.beq g' g
 | some (.bm g' _)=>Nat.beq g' g
 | _=>false
def eAlt {R:Type} (j g:Nat) (E1 E2:Ent R):Ent R:=fun args objs k=>bif isFn g args[j]? then E1 args objs k else E2 args objs k
theorem eAlt_ok {R:Type} {f j g:Nat} {E1 E2:Ent R} (h1:EOk f E1) (h2:EOk f E2):EOk f (eAlt j g E1 E2):=fun args objs k r h=>by
 unfold eAlt at h
 cases hb:isFn g args[j]? with
 | true=>rw [hb] at h;exact h1 args objs k r h
 | false=>rw [hb] at h;exact h2 args objs k r h
theorem eok_of {R α:Type} {f:Nat} {args:List AV} {objs:Objs} {m:Option α} {V:α→AV} {O:α→Objs} {k:AV→Objs→Option R} {r:R} (hs:∀ y,m=some y→Spec Tryz.prog gl0 f args objs (V y) (O y)) (h:(ob m fun y=>k (V y) (O y))=some r) :
  ∃ v o',k v o'=some r∧Spec Tryz.prog gl0 f args objs v o':=by
 obtain ⟨y,hy,h⟩:=qdm h
 exact ⟨_,_,h,hs y hy⟩
end Go.Proofs.YtkmpkebaloejhaaGreatDoor.Av
