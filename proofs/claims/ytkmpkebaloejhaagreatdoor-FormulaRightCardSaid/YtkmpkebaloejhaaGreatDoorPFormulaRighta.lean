/- The plain law of FormulaRight: what its twin computes answers true. Conditions: none. -/
import Derived.Test.YtkmpkebaloejhaaGreatDoorFr6
import Derived.Test.YtkmpkebaloejhaaGreatDoorRead
import Derived.KernelRfl
set_option linter.unusedSimpArgs false
set_option linter.unusedVariables false
set_option maxRecDepth 100000
namespace Go.Proofs.YtkmpkebaloejhaaGreatDoor.Av
open Go
theorem qah (a b:Int):Ops.lt Ops.std a b=decide (a<b):=rfl
theorem qal (a b:Int):Ops.eq Ops.std a b=decide (a=b):=rfl
theorem qan (n b:Nat):Ops.lim Ops.std n b=decide (n*b≤140737488355328):=rfl
theorem qas (a b:Int):Ops.le Ops.std a b=decide (a≤b):=by
 simp only [Ops.le,qah]
 by_cases h:a≤b
 ·have:¬ b<a:=by omega
  simp [h,this]
 ·have:b<a:=by omega
  simp [h,this]
theorem qaj (j:Int) (n:Nat):Ops.inb Ops.std j n=decide (0≤j∧j<(n:Int)):=by
 simp only [Ops.inb,qah]
 by_cases h:j<0
 ·have:¬ (0≤j∧j<(n:Int)):=by omega
  simp [h,this]
 ·by_cases h2:j<(n:Int)
  ·have:(0≤j∧j<(n:Int)):=by omega
   simp [h,h2,this]
  ·have:¬ (0≤j∧j<(n:Int)):=by omega
   simp [h,h2,this]
theorem qaa {α:Type} (p:Prop) [Decidable p] (x y:α):cond (decide p) x y=if p then x else y:=by by_cases h:p<;>simp [h]
theorem qaw (p:Prop) [Decidable p]:(!decide p)=decide (¬ p):=by by_cases h:p<;>simp [h]
theorem ob_s {α R:Type} (a:α) (f:α→Option R):ob (some a) f=f a:=rfl
theorem qd2 {α:Type} (x y:α):cond true x y=x:=rfl
theorem qd3 {α:Type} (x y:α):cond false x y=y:=rfl
theorem wrap64 {n:Int} (h1:-9223372036854775808≤n) (h2:n≤9223372036854775807):IntKind.wrap IntKind.i64 n=n:=wrap_id h1 h2
theorem qaf (n:Nat):Int.toNat (Nat.cast n)=n:=Int.toNat_natCast n
theorem ite_dec {α:Type} (p:Prop) [Decidable p] (x y:α):(bif decide p then x else y)=if p then x else y:=qaa p x y
theorem qat {α:Type} (l:List α) (x:α) (r:List α) (d:α):(l++x::r).getD l.length d=x:=by
 rw [List.getD_eq_getElem?_getD,List.getElem?_append_right (Nat.le_refl _)];simp
theorem ite_some {α:Type} {c:Prop} [Decidable c] {x y:Option α} (hx:∃ v,x=some v) (hy:∃ v,y=some v):∃ v,(if c then x else y)=some v:=by split<;>assumption
theorem qa8 {α:Type} {s:List α} {n:Nat} (d:α) (h:n<s.length):s.drop n=s.getD n d::s.drop (n+1):=by
 rw [List.drop_eq_getElem_cons h]
 congr 1
 simp [List.getD_eq_getElem?_getD,List.getElem?_eq_getElem h]
def digitP' (b:UInt8):Bool:=decide (48≤b.toNat) && decide (b.toNat≤57)
def lowerP (b:UInt8):Bool:=(decide (97≤b.toNat) && decide (b.toNat≤122)) || decide (b.toNat=95)
def wordP (b:UInt8):Bool:=lowerP b || digitP' b
def isWordP:List UInt8→Bool
 | []=>false
 | b::r=>lowerP b && r.all wordP && decide (r.length+1≤8)
theorem qey (b:UInt8):M110 (b.toNat:Int)=some (lowerP b):=by
 show T110 Ops.std _ some=_
 unfold T110 lowerP
 simp only [qas,qal,qaa]
 have e1:((97:Int)≤(b.toNat:Int))↔97≤b.toNat:=by omega
 have e2:((b.toNat:Int)≤(122:Int))↔b.toNat≤122:=by omega
 have e3:((b.toNat:Int)=(95:Int))↔b.toNat=95:=by omega
 simp only [e1,e2,e3]
 by_cases h1:97≤b.toNat<;>by_cases h2:b.toNat≤122<;>by_cases h3:b.toNat=95<;>simp [h1,h2,h3]
theorem digit_prog (b:UInt8):M107 (b.toNat:Int)=some (digitP' b):=by
 show T107 Ops.std _ some=_
 unfold T107 digitP'
 simp only [qas,qal,qaa]
 have e1:((48:Int)≤(b.toNat:Int))↔48≤b.toNat:=by omega
 have e2:((b.toNat:Int)≤(57:Int))↔b.toNat≤57:=by omega
 simp only [e1,e2]
 by_cases h1:48≤b.toNat<;>by_cases h2:b.toNat≤57<;>simp [h1,h2]
theorem qcy (b:UInt8):M46 (b.toNat:Int)=some (lowerP b):=by
 show T46 Ops.std _ some=_
 unfold T46 lowerP
 simp only [qas,qal,qaa]
 have e1:((97:Int)≤(b.toNat:Int))↔97≤b.toNat:=by omega
 have e2:((b.toNat:Int)≤(122:Int))↔b.toNat≤122:=by omega
 have e3:((b.toNat:Int)=(95:Int))↔b.toNat=95:=by omega
 simp only [e1,e2,e3]
 by_cases h1:97≤b.toNat<;>by_cases h2:b.toNat≤122<;>by_cases h3:b.toNat=95<;>simp [h1,h2,h3]
theorem qbh (b:UInt8):M45 (b.toNat:Int)=some (digitP' b):=by
 show T45 Ops.std _ some=_
 unfold T45 digitP'
 simp only [qas,qal,qaa]
 have e1:((48:Int)≤(b.toNat:Int))↔48≤b.toNat:=by omega
 have e2:((b.toNat:Int)≤(57:Int))↔b.toNat≤57:=by omega
 simp only [e1,e2]
 by_cases h1:48≤b.toNat<;>by_cases h2:b.toNat≤57<;>simp [h1,h2]
theorem within_prog (b:UInt8):M111 (b.toNat:Int)=some (wordP b):=by
 show T111 Ops.std M110 M107 _ some=_
 unfold T111 wordP
 rw [qey,digit_prog]
 simp only [ob_s]
 cases lowerP b<;>rfl
theorem run_prog {p:UInt8→Bool} {c:Int→Option Bool} (hc:∀ b:UInt8,c (b.toNat:Int)=some (p b)) (s:List UInt8) (hs:s.length<900000):F108 c s=some (s.takeWhile p):=by
 have h:∀ (t i n:Nat),i+t=s.length→t<n→R108 c s n (.l0 i)=some (s.take i++(s.drop i).takeWhile p):=by
  intro t
  induction t with
  | zero=>
    intro i n hi hn
    cases n with
    | zero=>omega
    | succ n=>
      show T108 Ops.std c s _ some _=_
      unfold T108
      simp only [qah,qaj,qaa,qaf]
      rw [if_neg (by omega),if_pos (by omega),List.drop_eq_nil_of_le (show s.length≤i by omega)]
      simp
  | succ t ih=>
    intro i n hi hn
    cases n with
    | zero=>omega
    | succ n=>
      have hlt:i<s.length:=by omega
      show T108 Ops.std c s _ some _=_
      unfold T108
      have hw:IntKind.wrap IntKind.i64 ((i:Int)+1)=((i+1:Nat):Int):=qag (by omega)
      simp only [qah,qaj,qaa,qaf]
      rw [if_pos (by omega),if_pos (by omega),hc,ob_s,qew hlt]
      cases hp:p (s.getD i 0) with
      | true=>
        simp only [cond_true]
        rw [hw,ih (i+1) n (by omega) (by omega),List.takeWhile_cons_of_pos hp]
        have:s.take (i+1)=s.take i++[s.getD i 0]:=by
         rw [List.take_add_one]
         simp [List.getD_eq_getElem?_getD,List.getElem?_eq_getElem hlt]
        rw [this]
        simp
      | false=>
        simp only [cond_false]
        rw [if_pos (by omega),List.takeWhile_cons_of_neg (by rw [hp];decide)]
        simp
 show T108 Ops.std c s _ some none=_
 unfold T108
 have:=h s.length 0 1000000 (by omega) (by omega)
 rw [List.take_zero,List.drop_zero,List.nil_append] at this
 exact this
theorem runW_prog (s:List UInt8) (hs:s.length<900000):M108 s=some (s.takeWhile wordP):=run_prog within_prog s hs
theorem qb1 {α:Type} (p:α→Bool):∀ l:List α,l.takeWhile p=l↔l.all p=true
 | []=>by simp
 | a::l=>by
   rw [List.takeWhile_cons,List.all_cons]
   cases hp:p a with
   | true=>simp [qb1 p l]
   | false=>simp
theorem qdo {b:UInt8} (h:lowerP b=true):wordP b=true:=by unfold wordP;rw [h];rfl
theorem isWord_prog (s:List UInt8):M96 s=some (isWordP s):=by
 unfold M96 F96 T96
 cases s with
 | nil=>rfl
 | cons b r=>
   simp only [qas,qaj,qaa,isWordP,List.length_cons]
   have e1:(!(b::r) == ([]:List UInt8))=true:=rfl
   rw [e1,qd2]
   by_cases h8:r.length+1≤8
   ·rw [if_pos (by omega),if_pos (by omega),show (b::r).getD (Int.toNat 0) 0=b from rfl,qey,ob_s]
    cases hl:lowerP b with
    | false=>simp
    | true=>
      simp only [cond_true]
      rw [runW_prog _ (by simp;omega),ob_s]
      have hb:=qdo hl
      simp only [Bool.true_and,h8,decide_true,Bool.and_true,Option.some.injEq]
      rw [Bool.eq_iff_iff,beq_iff_eq,qb1,List.all_cons,hb,Bool.true_and]
   ·rw [if_neg (by omega)]
    simp [h8]
theorem qb8 (s:List UInt8) (hs:s.length≤9223372036854775807):∀ (t i n:Nat),i+t=s.length→t<n→
  R62 M46 M45 s n (.l0 i)=some ((bif i == 0 then (match s with | []=>true | b::r=>lowerP b && r.all wordP) else (s.drop i).all wordP) && (decide (1≤s.length) && decide (s.length≤8)))
 | t,i,0,hi,hn=>by omega
 | 0,i,n+1,hi,hn=>by
   show T62 Ops.std _ _ s _ some _=_
   unfold T62
   simp only [qah,qas,qaa]
   rw [if_neg (by omega),List.drop_eq_nil_of_le (show s.length≤i by omega)]
   cases s with
   | nil=>simp
   | cons b r=>
     have:(i == 0)=false:=by simp at hi;simp;omega
     rw [this,if_pos (by simp;omega)]
     simp
     constructor<;>intro h<;>omega
 | t+1,i,n+1,hi,hn=>by
   have hlt:i<s.length:=by omega
   have ih:=qb8 s hs t (i+1) n (by omega) (by omega)
   have hw:IntKind.wrap IntKind.i64 ((i:Int)+1)=((i+1:Nat):Int):=qag (by omega)
   have hi1:(i+1 == 0)=false:=rfl
   rw [hi1,qd3] at ih
   show T62 Ops.std _ _ s _ some _=_
   unfold T62
   simp only [qah,qas,qal,qaj,qaa,qaf]
   rw [if_pos (by omega),if_pos (by omega),qcy,ob_s,hw]
   have hd:s.drop i=s.getD i 0::s.drop (i+1):=qew hlt
   by_cases h0:i=0
   ·subst h0
    cases s with
    | nil=>simp at hlt
    | cons b r=>
      simp only [List.getD_cons_zero,beq_self_eq_true,cond_true]
      cases hb:lowerP b with
      | false=>simp
      | true=>
        simp only [Bool.not_true,cond_false,Bool.true_and]
        exact ih
   ·have hb0:(i == 0)=false:=by simp [h0]
    rw [hb0,qd3,hd,List.all_cons]
    unfold wordP
    cases hb:lowerP (s.getD i 0) with
    | true=>
      simp only [Bool.not_true,cond_false,Bool.true_or,Bool.true_and]
      exact ih
    | false=>
      simp only [Bool.not_false,cond_true,Bool.false_or]
      rw [if_neg (by omega),if_pos (by omega),qbh,ob_s]
      cases hdg:digitP' (s.getD i 0) with
      | true=>simp only [Bool.not_true,cond_false,Bool.true_and];exact ih
      | false=>simp
theorem qa2 (s:List UInt8) (hs:s.length<900000):M62 s=some (isWordP s):=by
 show T62 Ops.std M46 M45 s (R62 M46 M45 s _) some none=_
 unfold T62
 refine (qb8 s (by omega) s.length 0 _ (by omega) (by omega)).trans ?_
 cases s with
 | nil=>rfl
 | cons b r=>simp [isWordP]
abbrev Tok:=Int×List UInt8×Int×Int
def blankP (b:UInt8):Bool:=decide (b.toNat=32) || (decide (b.toNat=9) || decide (b.toNat=10))
def letterP (b:UInt8):Bool:=decide (b.toNat=88) || (decide (b.toNat=70) || (decide (b.toNat=71) || (decide (b.toNat=85) || decide (b.toNat=82))))
def valW (w:List UInt8):Int:=w.foldl (fun n b=>10*n+((b.toNat:Int)-48)) 0
def twos:List (List UInt8):=[[60,61],[62,61],[61,61],[33,61],[38,38],[124,124],[45,62]]
def ones:List UInt8:=[40,41,91,93,43,45,42,60,62,33,64,59,61]
def signS (s:List UInt8):List UInt8:=
 match twos.find? (fun p=>decide (1<s.length) && (s.take 2 == p)) with
 | some p=>p
 | none=>match ones.find? (fun b=>s.take 1 == [b]) with
   | some b=>s.take 1
   | none=>[]
def tokS (s:List UInt8):Option (Int×List UInt8×Int):=
 match s with
 | []=>none
 | b::r=>if digitP' b then (if (s.takeWhile digitP').length≤3 then some (1,s.takeWhile digitP',valW (s.takeWhile digitP')) else none)
   else if lowerP b then (if (s.takeWhile wordP).length≤8 then some (2,s.takeWhile wordP,0) else none)
   else if letterP b then some (3,[b],0)
   else if signS s=[] then none else some (4,signS s,0)
def lexGo:Nat→List UInt8→Nat→List Tok→Int×Int×List Tok
 | 0,_,at_,_=>(2,(at_:Int),[])
 | _+1,[],at_,out=>(0,0,out++[((5,[],0,(at_:Int)):Tok)])
 | f+1,b::r,at_,out=>if blankP b then lexGo f r (at_+1) out else
   match tokS (b::r) with
   | none=>(2,(at_:Int),[])
   | some (k,w,n)=>lexGo f ((b::r).drop w.length) (at_+w.length) (out++[((k,w,n,(at_:Int)):Tok)])
def lexS (s:List UInt8):Int×Int×List Tok:=if 60000<s.length then (14,0,[]) else lexGo (s.length+1) s 0 []
noncomputable abbrev signR (s:List UInt8):=R47 s
theorem qfm (s:List UInt8) (n:Nat):List.drop 0 (List.take n s)=s.take n:=by simp
def signTail (s:List UInt8):List UInt8:=match ones.find? (fun b=>s.take 1 == [b]) with
 | some b=>s.take 1
 | none=>[]
theorem ones_get (j:Nat) (hj:j<13):List.drop j (List.take (j+1) [40,41,91,93,43,45,42,60,62,33,64,59,61])=[ones.getD j 0]:=by
 match j,hj with
 | 0,_ | 1,_ | 2,_ | 3,_ | 4,_ | 5,_ | 6,_ | 7,_ | 8,_ | 9,_ | 10,_ | 11,_ | 12,_=>rfl
theorem sign_one (s:List UInt8) (hs:0<s.length):∀ (t j n:Nat),j+t=13→t<n→signR s n (.l1 j)=some (match (ones.drop j).find? (fun b=>s.take 1 == [b]) with
  | some b=>s.take 1
  | none=>[])
 | t,j,0,hj,hn=>by omega
 | 0,j,n+1,hj,hn=>by
   show T47 Ops.std s _ some _=_
   unfold T47
   simp only [qah,qaa,List.length_cons,List.length_nil]
   rw [if_neg (by omega),List.drop_eq_nil_of_le (by simp [ones];omega)]
   rfl
 | t+1,j,n+1,hj,hn=>by
   have ih:=sign_one s hs t (j+1) n (by omega) (by omega)
   show T47 Ops.std s _ some _=_
   unfold T47
   have hw:IntKind.wrap IntKind.i64 ((j:Int)+1)=((j+1:Nat):Int):=qag (by omega)
   simp only [qah,qaj,qas,qaa,List.length_cons,List.length_nil,hw,qaf,qfm,ite_dec]
   rw [if_pos (by omega),if_pos (by omega),if_pos (by omega),if_pos (by omega:(0:Int)≤j),decide_eq_true (by omega:(j:Int)≤((j+1:Nat):Int)),qd2,ones_get j (by omega)]
   have hd:ones.drop j=ones.getD j 0::ones.drop (j+1):=qa8 0 (by simp [ones];omega)
   rw [hd,List.find?_cons]
   have e1:List.take (Int.toNat 1) s=s.take 1:=rfl
   rw [e1]
   cases hb:(s.take 1 == [ones.getD j 0]) with
   | true=>
     simp only [cond_true]
     rw [if_pos (by omega)]
   | false=>
     simp only [cond_false]
     exact ih
theorem sign_two (s:List UInt8) (hs:0<s.length):∀ (t j n:Nat),j+t=7→t+20<n→signR s n (.l0 j)=some (match (twos.drop j).find? (fun p=>decide (1<s.length) && (s.take 2 == p)) with
  | some p=>p
  | none=>signTail s)
 | t,j,0,hj,hn=>by omega
 | 0,j,n+1,hj,hn=>by
   have h1:=sign_one s hs 13 0 n (by omega) (by omega)
   show T47 Ops.std s _ some _=_
   unfold T47
   simp only [qah,qaa]
   rw [if_neg (by omega),List.drop_eq_nil_of_le (by simp [twos];omega)]
   exact h1
 | t+1,j,n+1,hj,hn=>by
   have ih:=sign_two s hs t (j+1) n (by omega) (by omega)
   show T47 Ops.std s _ some _=_
   unfold T47
   have hw:IntKind.wrap IntKind.i64 ((j:Int)+1)=((j+1:Nat):Int):=qag (by omega)
   have hd:twos.drop j=twos.getD j []::twos.drop (j+1):=qa8 [] (by simp [twos];omega)
   have hg:([[60,61],[62,61],[61,61],[33,61],[38,38],[124,124],[45,62],[],[]]:List (List UInt8)).getD j []=twos.getD j []:=by
    have hj7:j<7:=by omega
    clear hj hd hw ih hn
    match j,hj7 with
    | 0,_ | 1,_ | 2,_ | 3,_ | 4,_ | 5,_ | 6,_=>rfl
   simp only [qah,qaj,qaa,hw,qaf,qfm,hg]
   rw [if_pos (by omega),hd,List.find?_cons]
   by_cases h1:1<s.length
   ·rw [if_pos (by omega),if_pos (by omega),if_pos (by omega),if_pos (by omega)]
    have e1:List.take (Int.toNat 2) s=s.take 2:=rfl
    rw [e1]
    simp only [h1,decide_true,Bool.true_and]
    cases hb:(s.take 2 == twos.getD j []) with
    | true=>simp only [cond_true]
    | false=>
      simp only [cond_false]
      simp only [h1,decide_true,Bool.true_and] at ih
      exact ih
   ·rw [if_neg (by omega)]
    simp only [h1,decide_false,Bool.false_and]
    simp only [h1,decide_false,Bool.false_and] at ih
    exact ih
theorem sign_ref (s:List UInt8) (hs:0<s.length):M47 s=some (signS s):=by
 show T47 Ops.std s (signR s 1000000) some none=_
 unfold T47
 have:=sign_two s hs 7 0 1000000 (by omega) (by omega)
 exact this
theorem signS_len (s:List UInt8):(signS s).length≤2∧(signS s).length≤s.length∧s.take (signS s).length=signS s:=by
 unfold signS
 cases h:twos.find? (fun p=>decide (1<s.length) && (s.take 2 == p)) with
 | some p=>
   have h1:=List.find?_some h
   simp only [Bool.and_eq_true,decide_eq_true_eq,beq_iff_eq] at h1
   simp only []
   rw [←h1.2,List.length_take,Nat.min_eq_left (by omega)]
   exact ⟨by omega,by omega,rfl⟩
 | none=>
   simp only []
   cases h2:ones.find? (fun b=>s.take 1 == [b]) with
   | some b=>
     simp only [List.length_take]
     refine ⟨by omega,by omega,?_⟩
     cases s<;>simp
   | none=>simp
theorem qez {p:UInt8→Bool}:∀ (l:List UInt8),(l.takeWhile p).length≤l.length∧l.take (l.takeWhile p).length=l.takeWhile p
 | []=>by simp
 | a::l=>by
   rw [List.takeWhile_cons]
   cases hp:p a with
   | true=>have:=qez (p:=p) l;simp [this]
   | false=>simp
theorem tw_lt {p:UInt8→Bool}:∀ (l:List UInt8) (n:Nat),n<(l.takeWhile p).length→p (l.getD n 0)=true∧(l.takeWhile p).getD n 0=l.getD n 0
 | [],n,h=>by simp at h
 | a::l,n,h=>by
   rw [List.takeWhile_cons] at h ⊢
   cases hp:p a with
   | false=>rw [hp] at h;simp at h
   | true=>
     rw [hp] at h
     cases n with
     | zero=>simp [hp]
     | succ n=>
       simp only [if_true,List.length_cons] at h ⊢
       have:=tw_lt (p:=p) l n (by omega)
       simpa using this
theorem tw_end {p:UInt8→Bool}:∀ (l:List UInt8),(l.takeWhile p).length<l.length→p (l.getD (l.takeWhile p).length 0)=false
 | [],h=>by simp at h
 | a::l,h=>by
   rw [List.takeWhile_cons] at h ⊢
   cases hp:p a with
   | false=>simp [hp]
   | true=>
     rw [hp] at h
     simp only [if_true,List.length_cons] at h ⊢
     have:=tw_end (p:=p) l (by omega)
     simpa using this
theorem qcz (s:List UInt8) (a n:Nat):s.getD (a+n) 0=(s.drop a).getD n 0:=by
 simp [List.getD_eq_getElem?_getD,List.getElem?_drop]
theorem valW_snoc (w:List UInt8) (b:UInt8):valW (w++[b])=10*valW w+((b.toNat:Int)-48):=by simp [valW,List.foldl_append]
theorem take_snoc (w:List UInt8) (n:Nat) (h:n<w.length):w.take (n+1)=w.take n++[w.getD n 0]:=by
 rw [List.take_add_one]
 simp [List.getD_eq_getElem?_getD,List.getElem?_eq_getElem h]
theorem wrap8 {n:Int} (h1:0≤n) (h2:n≤255):IntKind.wrap IntKind.u8 n=n:=by
 have e1:(2:Int) ^ IntKind.u8.bits=256:=by decide
 have e3:IntKind.u8.signed=false:=rfl
 simp only [IntKind.wrap,e1,e3,Bool.false_and,decide_eq_true_eq]
 simp
 omega
theorem digit_val {b:UInt8} (h:digitP' b=true):48≤b.toNat∧b.toNat≤57:=by
 unfold digitP' at h
 simpa using h
theorem qfn:∀ (n:Nat) (w:List UInt8),w.length=n→(∀ b∈w,digitP' b=true)→0≤valW w∧valW w<10 ^ n:=by
 intro n
 induction n with
 | zero=>intro w hw _;cases w with
   | nil=>simp [valW]
   | cons=>simp at hw
 | succ n ih=>
   intro w hw hd
   have hne:w≠[]:=by intro h;rw [h] at hw;simp at hw
   obtain ⟨l,b,rfl⟩:∃ l b,w=l++[b]:=⟨w.dropLast,w.getLast hne,(List.dropLast_concat_getLast hne).symm⟩
   have h1:=ih l (by simpa using hw) fun b hb=>hd b (by simp [hb])
   have h2:=digit_val (hd b (by simp))
   rw [valW_snoc]
   have h3:(10:Int) ^ (n+1)=10*10 ^ n:=by rw [Int.pow_succ];omega
   rw [h3]
   generalize (10:Int) ^ n=q at h1 ⊢
   omega
theorem tw_all {p:UInt8→Bool}:∀ (l:List UInt8),∀ b∈l.takeWhile p,p b=true
 | [],b,h=>by simp at h
 | a::l,b,h=>by
   rw [List.takeWhile_cons] at h
   cases hp:p a with
   | false=>rw [hp] at h;simp at h
   | true=>
     rw [hp] at h
     simp only [if_true,List.mem_cons] at h
     rcases h with rfl | h
     ·exact hp
     ·exact tw_all (p:=p) l b h
noncomputable abbrev lexR (s:List UInt8):=R18 M45 M46 M47 s
section
variable (s:List UInt8) (hs:s.length≤60000)
theorem lexR_1032 (hs:s.length≤60000) (n a m:Nat) (ham:a+m≤s.length) (out:List Tok) (ho:out.length<100000) (k v:Int) (x:Int) :
  lexR s (n+1) (.l1032 a m out k v x)=lexR s n (.l0 ((a+m:Nat):Int) (out++[(k,(s.drop a).take m,v,x)])):=by
 show T18 Ops.std _ _ _ s _ some _=_
 unfold T18
 have hw:IntKind.wrap IntKind.i64 ((a:Int)+(m:Int))=((a+m:Nat):Int):=by rw [wrap64 (by omega) (by omega)];omega
 simp only [qaj,qas,qan,qaa,hw,qaf,ite_dec,mt,List.length_cons,List.length_nil]
 rw [if_pos (by omega),if_pos (by omega:(0:Int)≤a),decide_eq_true (by omega:(a:Int)≤((a+m:Nat):Int)),qd2,if_pos (by omega)]
 rw [show List.drop a (List.take (a+m) s)=(s.drop a).take m by rw [List.drop_take];congr 1;omega]
theorem lexR_digits (hs:s.length≤60000) (a:Nat) (ha:a<s.length) (out:List Tok) (x:Int) (w:List UInt8) (hw:(s.drop a).takeWhile digitP'=w):∀ (t i n:Nat) (v:Int),i+t=w.length→2*t<n→(i≤3→v=valW (w.take i))→(3<i→True)→
  (w.length≤3→∃ n',n'+2*t+1=n∧lexR s n (.l1 a i out v x)=lexR s n' (.l1032 a w.length out 1 (valW w) x))∧(3<w.length→lexR s n (.l1 a i out v x)=some (2,(a:Int),[])):=by
 intro t
 have hwl:w.length≤(s.drop a).length:=by rw [←hw];exact (qez _).1
 rw [List.length_drop] at hwl
 induction t with
 | zero=>
   intro i n v hi hn hv _
   obtain ⟨m,rfl⟩:∃ m,n=m+1:=⟨n-1,by omega⟩
   have hstep:lexR s (m+1) (.l1 a i out v x)=if (3:Int)<i then some (2,(a:Int),[]) else lexR s m (.l1032 a i out 1 v x):=by
    show T18 Ops.std _ _ _ s _ some _=_
    unfold T18
    have hwi:IntKind.wrap IntKind.i64 ((a:Int)+(i:Int))=((a+i:Nat):Int):=by rw [wrap64 (by omega) (by omega)];omega
    simp only [qah,qaj,qaa,hwi,qaf,mt]
    by_cases h1:a+i<s.length
    ·rw [if_pos (by omega),if_pos (by omega),qbh,ob_s,qcz]
     have hend:=tw_end (p:=digitP') (s.drop a) (by rw [hw,List.length_drop];omega)
     rw [hw,show w.length=i by omega] at hend
     rw [hend,qd3]
    ·rw [if_neg (by omega)]
   rw [hstep]
   refine ⟨fun h3=>⟨m,by omega,?_⟩,fun h3=>?_⟩
   ·rw [if_neg (by omega),hv (by omega),show i=w.length by omega,List.take_length]
   ·rw [if_pos (by omega)]
 | succ t ih=>
   intro i n v hi hn hv _
   obtain ⟨m,rfl⟩:∃ m,n=m+2:=⟨n-2,by omega⟩
   have hlt:=tw_lt (p:=digitP') (s.drop a) i (by rw [hw];omega)
   rw [hw] at hlt
   have hdv:=digit_val hlt.1
   have hwi:IntKind.wrap IntKind.i64 ((a:Int)+(i:Int))=((a+i:Nat):Int):=by rw [wrap64 (by omega) (by omega)];omega
   have e20:∀ v',lexR s (m+1) (.l1020 a i out v' x)=lexR s m (.l1 a ((i+1:Nat):Int) out v' x):=fun v'=>by
    show T18 Ops.std _ _ _ s _ some _=_
    unfold T18
    show lexR s m (.l1 a (IntKind.wrap IntKind.i64 ((i:Int)+1)) out v' x)=_
    rw [show IntKind.wrap IntKind.i64 ((i:Int)+1)=((i+1:Nat):Int) from qag (by omega)]
   have hstep:lexR s (m+2) (.l1 a i out v x)=lexR s m (.l1 a ((i+1:Nat):Int) out (if (i:Int)<3 then 10*v+((((s.drop a).getD i 0).toNat:Int)-48) else v) x):=by
    show T18 Ops.std _ _ _ s _ some _=_
    unfold T18
    simp only [qah,qaj,qaa,hwi,qaf,mt]
    rw [if_pos (by omega),if_pos (by omega),qbh,ob_s,qcz,hlt.1,qd2]
    by_cases h3:(i:Int)<3
    ·have hb:0≤v∧v<1000:=by
      have:=qfn i (w.take i) (by rw [List.length_take];omega) fun b hb=>by
       have:=List.mem_of_mem_take hb
       rw [←hw] at this
       exact tw_all _ b this
      rw [←hv (by omega)] at this
      have hi3:i=0∨i=1∨i=2:=by omega
      rcases hi3 with rfl | rfl | rfl<;>simp at this<;>omega
     rw [if_pos h3,if_pos (by omega),if_pos h3,wrap8 (by omega) (by omega),wrap64 (n:=((((s.drop a).getD i 0).toNat:Int)-48)) (by omega) (by omega),wrap64 (n:=10*v) (by omega) (by omega),wrap64 (by omega) (by omega)]
     exact e20 _
    ·rw [if_neg h3,if_neg h3]
     exact e20 v
   rw [hstep]
   obtain ⟨g1,g2⟩:=ih (i+1) m (if (i:Int)<3 then 10*v+((((s.drop a).getD i 0).toNat:Int)-48) else v) (by omega) (by omega) (fun h3=>by
    rw [if_pos (by omega),hv (by omega),take_snoc w i (by omega),valW_snoc,hlt.2]) (fun _=>trivial)
   refine ⟨fun h3=>?_,g2⟩
   obtain ⟨n',h4,h5⟩:=g1 h3
   exact ⟨n',by omega,h5⟩
theorem lexR_words (hs:s.length≤60000) (a:Nat) (ha:a<s.length) (out:List Tok) (x:Int) (w:List UInt8) (hw:(s.drop a).takeWhile wordP=w):∀ (t i n:Nat),i+t=w.length→2*t+2<n→
  ∃ n',n'+2*t+2=n∧lexR s n (.l2 a i out x)=if 8<w.length then some (2,(a:Int),[]) else lexR s n' (.l1032 a w.length out 2 0 x):=by
 intro t
 have hwl:w.length≤(s.drop a).length:=by rw [←hw];exact (qez _).1
 rw [List.length_drop] at hwl
 induction t with
 | zero=>
   intro i n hi hn
   obtain ⟨m,rfl⟩:∃ m,n=m+2:=⟨n-2,by omega⟩
   refine ⟨m,by omega,?_⟩
   have e27:lexR s (m+1) (.l1027 a i out x)=if 8<w.length then some (2,(a:Int),[]) else lexR s m (.l1032 a w.length out 2 0 x):=by
    show T18 Ops.std _ _ _ s _ some _=_
    unfold T18
    simp only [qah,qaa,mt]
    rw [show i=w.length by omega]
    by_cases h8:8<w.length
    ·rw [if_pos (by omega),if_pos h8]
    ·rw [if_neg (by omega),if_neg h8]
   rw [←e27]
   show T18 Ops.std _ _ _ s _ some _=_
   unfold T18
   have hwi:IntKind.wrap IntKind.i64 ((a:Int)+(i:Int))=((a+i:Nat):Int):=by rw [wrap64 (by omega) (by omega)];omega
   simp only [qah,qaj,qaa,hwi,qaf,mt]
   by_cases h1:a+i<s.length
   ·rw [if_pos (by omega),if_pos (by omega),qcy,ob_s,qcz]
    have hend:=tw_end (p:=wordP) (s.drop a) (by rw [hw,List.length_drop];omega)
    rw [hw,show w.length=i by omega] at hend
    unfold wordP at hend
    simp only [Bool.or_eq_false_iff] at hend
    rw [hend.1,qd3,if_pos (by omega),qbh,ob_s,hend.2,qd3]
   ·rw [if_neg (by omega)]
 | succ t ih=>
   intro i n hi hn
   obtain ⟨m,rfl⟩:∃ m,n=m+2:=⟨n-2,by omega⟩
   have hlt:=tw_lt (p:=wordP) (s.drop a) i (by rw [hw];omega)
   obtain ⟨n',h4,h5⟩:=ih (i+1) m (by omega) (by omega)
   refine ⟨n',by omega,?_⟩
   rw [←h5]
   have e26:lexR s (m+1) (.l1026 a i out x)=lexR s m (.l2 a ((i+1:Nat):Int) out x):=by
    show T18 Ops.std _ _ _ s _ some _=_
    unfold T18
    show lexR s m (.l2 a (IntKind.wrap IntKind.i64 ((i:Int)+1)) out x)=_
    rw [show IntKind.wrap IntKind.i64 ((i:Int)+1)=((i+1:Nat):Int) from qag (by omega)]
   rw [←e26]
   show T18 Ops.std _ _ _ s _ some _=_
   unfold T18
   have hwi:IntKind.wrap IntKind.i64 ((a:Int)+(i:Int))=((a+i:Nat):Int):=by rw [wrap64 (by omega) (by omega)];omega
   simp only [qah,qaj,qaa,hwi,qaf,mt]
   rw [if_pos (by omega),if_pos (by omega),qcy,ob_s,qcz]
   have hp:=hlt.1
   unfold wordP at hp
   cases hl:lowerP ((s.drop a).getD i 0) with
   | true=>rw [qd2]
   | false=>
     rw [hl,Bool.false_or] at hp
     rw [qd3,if_pos (by omega),qbh,ob_s,hp,qd2]
end
theorem qe0 {s:List UInt8} {k n:Int} {w:List UInt8} (h:tokS s=some (k,w,n)):0<w.length∧w.length≤s.length∧s.take w.length=w∧k≠0∧k≠5:=by
 cases s with
 | nil=>simp [tokS] at h
 | cons b r=>
   simp only [tokS] at h
   split at h
   ·rename_i hd
    split at h
    ·simp only [Option.some.injEq,Prod.mk.injEq] at h
     obtain ⟨rfl,rfl,rfl⟩:=h
     have h1:=qez (p:=digitP') (b::r)
     refine ⟨?_,h1.1,h1.2,by decide,by decide⟩
     rw [List.takeWhile_cons,hd];simp
    ·cases h
   ·split at h
    ·rename_i hd hl
     split at h
     ·simp only [Option.some.injEq,Prod.mk.injEq] at h
      obtain ⟨rfl,rfl,rfl⟩:=h
      have h1:=qez (p:=wordP) (b::r)
      refine ⟨?_,h1.1,h1.2,by decide,by decide⟩
      rw [List.takeWhile_cons,qdo hl];simp
     ·cases h
    ·split at h
     ·simp only [Option.some.injEq,Prod.mk.injEq] at h
      obtain ⟨rfl,rfl,rfl⟩:=h
      exact ⟨by simp,by simp,by simp,by decide,by decide⟩
     ·split at h
      ·cases h
      ·rename_i hne
       simp only [Option.some.injEq,Prod.mk.injEq] at h
       obtain ⟨rfl,rfl,rfl⟩:=h
       have h1:=signS_len (b::r)
       refine ⟨?_,h1.2.1,h1.2.2,by decide,by decide⟩
       cases hq:signS (b::r) with
       | nil=>exact absurd hq hne
       | cons=>simp
theorem lexR_go (s:List UInt8) (hs:s.length≤60000):∀ (f a n:Nat) (out:List Tok),s.length-a<f→a≤s.length→8*(s.length-a)+8≤n→out.length≤a→
  lexR s n (.l0 a out)=some (lexGo f (s.drop a) a out)
 | 0,a,n,out,hf,ha,hn,ho=>by omega
 | f+1,a,n,out,hf,ha,hn,ho=>by
   obtain ⟨m,rfl⟩:∃ m,n=m+1:=⟨n-1,by omega⟩
   have ih:=lexR_go s hs f
   by_cases hend:a=s.length
   ·rw [List.drop_eq_nil_of_le (by omega)]
    show T18 Ops.std _ _ _ s _ some _=_
    unfold T18
    simp only [qah,qan,qaa,mt,List.length_cons,List.length_nil]
    rw [if_neg (by omega),if_pos (by omega)]
    rfl
   ·have halt:a<s.length:=by omega
    have hd:s.drop a=s.getD a 0::s.drop (a+1):=qew halt
    have hfin:∀ (k v:Int) (w:List UInt8) (n':Nat),tokS (s.drop a)=some (k,w,v)→8*(s.length-(a+w.length))+9≤n'→lexR s n' (.l1032 a w.length out k v a)=some (lexGo f (s.drop (a+w.length)) (a+w.length) (out++[(k,w,v,(a:Int))])):=fun k v w n' ht hn'=>by
     obtain ⟨h1,h2,h3,_,_⟩:=qe0 ht
     rw [List.length_drop] at h2
     obtain ⟨n2,rfl⟩:∃ n2,n'=n2+1:=⟨n'-1,by omega⟩
     rw [lexR_1032 s hs n2 a w.length (by omega) out (by omega),h3]
     exact ih (a+w.length) n2 _ (by omega) (by omega) (by omega) (by simp;omega)
    have hgo:∀ (k v:Int) (w:List UInt8),blankP (s.getD a 0)=false→tokS (s.drop a)=some (k,w,v)→lexGo (f+1) (s.drop a) a out=lexGo f (s.drop (a+w.length)) (a+w.length) (out++[(k,w,v,(a:Int))]):=fun k v w hb ht=>by
     have h2:=ht
     rw [hd] at ht ⊢
     simp only [lexGo,hb,ht,Bool.false_eq_true,if_false]
     rw [←hd,List.drop_drop]
    have hgo0:blankP (s.getD a 0)=false→tokS (s.drop a)=none→lexGo (f+1) (s.drop a) a out=(2,(a:Int),[]):=fun hb ht=>by
     rw [hd] at ht ⊢
     simp only [lexGo,hb,ht,Bool.false_eq_true,if_false]
    have hgob:blankP (s.getD a 0)=true→lexGo (f+1) (s.drop a) a out=lexGo f (s.drop (a+1)) (a+1) out:=fun hb=>by
     rw [hd]
     simp only [lexGo,hb,if_true]
    have hblank:blankP (s.getD a 0)=true→lexR s m (.l0 ((a+1:Nat):Int) out)=some (lexGo (f+1) (s.drop a) a out):=fun hb=>by
     rw [hgob hb]
     exact ih (a+1) m out (by omega) (by omega) (by omega) (by omega)
    have htk:tokS (s.drop a)=(if digitP' (s.getD a 0) then (if ((s.drop a).takeWhile digitP').length≤3 then some (1,(s.drop a).takeWhile digitP',valW ((s.drop a).takeWhile digitP')) else none)
      else if lowerP (s.getD a 0) then (if ((s.drop a).takeWhile wordP).length≤8 then some (2,(s.drop a).takeWhile wordP,0) else none)
      else if letterP (s.getD a 0) then some (3,[s.getD a 0],0)
      else if signS (s.drop a)=[] then none else some (4,signS (s.drop a),0)):=by rw [hd];rfl
    generalize hb0:s.getD a 0=b at *
    show T18 Ops.std _ _ _ s _ some _=_
    unfold T18
    have hw1:IntKind.wrap IntKind.i64 ((a:Int)+1)=((a+1:Nat):Int):=qag (by omega)
    simp only [qah,qal,qaj,qaa,qaf,hb0,hw1]
    rw [if_pos (by omega),if_pos (by omega)]
    by_cases h32:b.toNat=32
    ·rw [if_pos (by omega)];exact hblank (by simp [blankP,h32])
    ·rw [if_neg (by omega)]
     by_cases h9:b.toNat=9
     ·rw [if_pos (by omega)];exact hblank (by simp [blankP,h9])
     ·rw [if_neg (by omega)]
      by_cases h10:b.toNat=10
      ·rw [if_pos (by omega)];exact hblank (by simp [blankP,h10])
      ·rw [if_neg (by omega),qbh,ob_s]
       have hnb:blankP b=false:=by simp [blankP,h32,h9,h10]
       cases hdg:digitP' b with
       | true=>
         rw [qd2]
         rw [hdg,if_pos rfl] at htk
         have hwl:=qez (p:=digitP') (s.drop a)
         rw [List.length_drop] at hwl
         obtain ⟨g1,g2⟩:=lexR_digits s hs a halt out (a:Int) _ rfl ((s.drop a).takeWhile digitP').length 0 m 0 (by omega) (by omega) (fun _=>by simp [valW]) (fun _=>trivial)
         by_cases h3:((s.drop a).takeWhile digitP').length≤3
         ·rw [if_pos h3] at htk
          obtain ⟨n',g3,g4⟩:=g1 h3
          have hp:=(qe0 htk).1
          refine Eq.trans g4 ?_
          clear g1 g2
          have hq:=hfin 1 _ _ n' htk
          generalize ((s.drop a).takeWhile digitP')=w at *
          rw [hq (by omega),hgo 1 _ _ hnb htk]
         ·rw [if_neg h3] at htk
          refine Eq.trans (g2 (by omega)) ?_
          rw [hgo0 hnb htk]
       | false=>
         rw [qd3,qcy,ob_s]
         rw [hdg] at htk
         simp only [Bool.false_eq_true,if_false] at htk
         cases hlw:lowerP b with
         | true=>
           rw [qd2]
           rw [hlw,if_pos rfl] at htk
           have hwl:=qez (p:=wordP) (s.drop a)
           rw [List.length_drop] at hwl
           obtain ⟨n',g3,g4⟩:=lexR_words s hs a halt out (a:Int) _ rfl ((s.drop a).takeWhile wordP).length 0 m (by omega) (by omega)
           refine Eq.trans g4 ?_
           by_cases h8:((s.drop a).takeWhile wordP).length≤8
           ·rw [if_pos h8] at htk
            have hp:=(qe0 htk).1
            have hq:=hfin 2 _ _ n' htk
            generalize ((s.drop a).takeWhile wordP)=w at *
            rw [if_neg (by omega),hq (by omega),hgo 2 _ _ hnb htk]
           ·rw [if_neg h8] at htk
            rw [if_pos (by omega),hgo0 hnb htk]
         | false=>
           rw [qd3]
           rw [hlw] at htk
           simp only [Bool.false_eq_true,if_false] at htk
           have h31:letterP b=true→lexR s m (.l1031 a out a)=some (lexGo (f+1) (s.drop a) a out):=fun hlt=>by
            rw [hlt,if_pos rfl] at htk
            obtain ⟨m2,rfl⟩:∃ m2,m=m2+1:=⟨m-1,by omega⟩
            show T18 Ops.std _ _ _ s _ some _=_
            unfold T18
            rw [hgo 3 _ _ hnb htk]
            exact hfin 3 0 [b] m2 htk (by simp;omega)
           by_cases g1:b.toNat=88
           ·rw [if_pos (by omega)];exact h31 (by simp [letterP,g1])
           ·rw [if_neg (by omega)]
            by_cases g2:b.toNat=70
            ·rw [if_pos (by omega)];exact h31 (by simp [letterP,g2])
            ·rw [if_neg (by omega)]
             by_cases g3:b.toNat=71
             ·rw [if_pos (by omega)];exact h31 (by simp [letterP,g3])
             ·rw [if_neg (by omega)]
              by_cases g4:b.toNat=85
              ·rw [if_pos (by omega)];exact h31 (by simp [letterP,g4])
              ·rw [if_neg (by omega)]
               by_cases g5:b.toNat=82
               ·rw [if_pos (by omega)];exact h31 (by simp [letterP,g5])
               ·rw [if_neg (by omega)]
                have hlt:letterP b=false:=by simp [letterP,g1,g2,g3,g4,g5]
                rw [hlt] at htk
                simp only [Bool.false_eq_true,if_false] at htk
                obtain ⟨m2,rfl⟩:∃ m2,m=m2+1:=⟨m-1,by omega⟩
                show T18 Ops.std _ _ _ s _ some _=_
                unfold T18
                simp only [qaj,qal,qaa,qaf,List.take_length,mt]
                rw [if_pos (by omega),sign_ref (s.drop a) (by rw [List.length_drop];omega),ob_s]
                by_cases hsg:signS (s.drop a)=[]
                ·rw [if_pos hsg] at htk
                 rw [if_pos (by rw [hsg];rfl),hgo0 hnb htk]
                ·rw [if_neg hsg] at htk
                 have hp:=(qe0 htk).1
                 rw [if_neg (by omega),hgo 4 _ _ hnb htk]
                 exact hfin 4 0 _ m2 htk (by omega)
theorem lex_ref (s:List UInt8):M18 s=some (lexS s):=by
 show T18 Ops.std M45 M46 M47 s (lexR s 1000000) some none=_
 unfold T18 lexS
 simp only [qah,qaa,mt]
 by_cases h:60000<s.length
 ·rw [if_pos (by omega),if_pos h]
 ·rw [if_neg (by omega),if_neg h]
  exact lexR_go s (by omega) (s.length+1) 0 1000000 [] (by omega) (by omega) (by omega) (by simp)
def tokOK (t:Tok):Prop:=(t.1=1→0≤t.2.2.1∧t.2.2.1≤999)∧(t.1=2→isWordP t.2.1=true)
theorem tokS_ok {s:List UInt8} {k n:Int} {w:List UInt8} (h:tokS s=some (k,w,n)) (x:Int):tokOK (k,w,n,x):=by
 cases s with
 | nil=>simp [tokS] at h
 | cons b r=>
   simp only [tokS] at h
   split at h
   ·rename_i hd
    split at h
    ·rename_i h3
     simp only [Option.some.injEq,Prod.mk.injEq] at h
     obtain ⟨rfl,rfl,rfl⟩:=h
     refine ⟨fun _=>?_,fun h=>(by cases h)⟩
     have:=qfn _ ((b::r).takeWhile digitP') rfl fun b hb=>tw_all _ b hb
     have hl:((b::r).takeWhile digitP').length=0∨((b::r).takeWhile digitP').length=1∨((b::r).takeWhile digitP').length=2∨((b::r).takeWhile digitP').length=3:=by omega
     rcases hl with hl | hl | hl | hl<;>rw [hl] at this<;>simp at this ⊢<;>omega
    ·cases h
   ·split at h
    ·rename_i hd hl
     split at h
     ·rename_i h8
      simp only [Option.some.injEq,Prod.mk.injEq] at h
      obtain ⟨rfl,rfl,rfl⟩:=h
      refine ⟨fun h=>(by cases h),fun _=>?_⟩
      rw [List.takeWhile_cons,qdo hl] at h8 ⊢
      simp only [if_true,List.length_cons] at h8 ⊢
      simp only [isWordP,hl,Bool.true_and,Bool.and_eq_true,List.all_eq_true,decide_eq_true_eq]
      exact ⟨fun b hb=>tw_all _ b hb,h8⟩
     ·cases h
    ·split at h
     ·simp only [Option.some.injEq,Prod.mk.injEq] at h
      obtain ⟨rfl,rfl,rfl⟩:=h
      exact ⟨fun h=>(by cases h),fun h=>(by cases h)⟩
     ·split at h
      ·cases h
      ·simp only [Option.some.injEq,Prod.mk.injEq] at h
       obtain ⟨rfl,rfl,rfl⟩:=h
       exact ⟨fun h=>(by cases h),fun h=>(by cases h)⟩
def toksOK (l:List Tok):Prop:=∃ (q:List Tok) (x:Int),l=q++[(5,[],0,x)]∧∀ t∈q,t.1≠5∧tokOK t
theorem lexGo_ok:∀ (f:Nat) (s:List UInt8) (a:Nat) (out:List Tok),(∀ t∈out,t.1≠5∧tokOK t)→∀ (e x:Int) (l:List Tok),lexGo f s a out=(e,x,l)→e=0→toksOK l∧l.length≤out.length+s.length+1
 | 0,s,a,out,ho,e,x,l,h,he=>by
   simp only [lexGo,Prod.mk.injEq] at h
   omega
 | f+1,[],a,out,ho,e,x,l,h,he=>by
   simp only [lexGo,Prod.mk.injEq] at h
   obtain ⟨_,_,rfl⟩:=h
   exact ⟨⟨out,a,rfl,ho⟩,by simp⟩
 | f+1,b::r,a,out,ho,e,x,l,h,he=>by
   simp only [lexGo] at h
   split at h
   ·have:=lexGo_ok f r (a+1) out ho e x l h he
    exact ⟨this.1,by simp;omega⟩
   ·split at h
    ·simp only [Prod.mk.injEq] at h
     omega
    ·rename_i k w n ht
     have h1:=qe0 ht
     have:=lexGo_ok f ((b::r).drop w.length) (a+w.length) (out++[(k,w,n,(a:Int))]) (fun t ht'=>by
      rcases List.mem_append.1 ht' with h2 | h2
      ·exact ho t h2
      ·simp at h2;subst h2;exact ⟨h1.2.2.2.2,tokS_ok ht _⟩) e x l h he
     refine ⟨this.1,?_⟩
     have h2:=this.2
     simp only [List.length_append,List.length_cons,List.length_nil,List.length_drop] at h2 ⊢
     omega
theorem lexS_ok {s:List UInt8} {x:Int} {l:List Tok} (h:lexS s=(0,x,l)):toksOK l∧l.length≤s.length+1∧s.length≤60000:=by
 unfold lexS at h
 split at h
 ·simp at h
 ·have:=lexGo_ok _ s 0 [] (by simp) 0 x l h rfl
  exact ⟨this.1,by simpa using this.2,by omega⟩
abbrev Trm:=Int×Int×List UInt8×List UInt8
def opn (k:Int):Int:=
 if k=1∨k=2∨k=3 then 0 else if k=4∨k=8∨k=11∨k=12 then 1 else if k=5∨k=6∨k=7∨k=9∨k=10 then 2 else -1
theorem opn_cases (k:Int):opn k=0∨opn k=1∨opn k=2∨opn k = -1:=by
 unfold opn
 split
 ·simp
 ·split
  ·simp
  ·split<;>simp
section
variable {X:Type} (E:List X→Bool)
def badP (p:Int×List X) (d:Int):Bool:=
 decide (opn p.1<0) || decide (d<opn p.1) || (decide (p.1=3) && !E p.2) || (!decide (p.1=3) && decide (0<p.2.length))
def rGo:List (Int×List X)→Int→Option Int
 | [],d=>some d
 | p::r,d=>if badP E p d then none else rGo r (d+1-opn p.1)
inductive Fm (X:Type) where
 | nul (p:Int×List X)
 | un (p:Int×List X) (a:Fm X)
 | bi (p:Int×List X) (a b:Fm X)
def Fm.flat:Fm X→List (Int×List X)
 | .nul p=>[p]
 | .un p a=>a.flat++[p]
 | .bi p a b=>a.flat++b.flat++[p]
def Fm.size:Fm X→Nat
 | .nul _=>1
 | .un _ a=>a.size+1
 | .bi _ a b=>a.size+b.size+1
def Fm.wf:Fm X→Prop
 | .nul p=>opn p.1=0∧(p.1=3→E p.2=true)∧(p.1≠3→p.2=[])
 | .un p a=>opn p.1=1∧p.2=[]∧a.wf
 | .bi p a b=>opn p.1=2∧p.2=[]∧a.wf∧b.wf
theorem Fm.flat_len (t:Fm X):t.flat.length=t.size:=by
 induction t with
 | nul=>rfl
 | un p a ih=>simp [Fm.flat,Fm.size,ih]
 | bi p a b iha ihb=>simp [Fm.flat,Fm.size,iha,ihb];omega
theorem ne3 {k n:Int} (h:opn k=n) (hn:n≠0):k≠3:=by
 rintro rfl
 exact hn (by rw [←h];rfl)
theorem rGo_flat (t:Fm X) (ht:t.wf E):∀ (r:List (Int×List X)) (d:Int),0≤d→rGo E (t.flat++r) d=rGo E r (d+1):=by
 induction t with
 | nul p=>
   intro r d hd
   obtain ⟨h1,h2,h3⟩:=ht
   have hb:badP E p d=false:=by
    unfold badP
    rw [h1]
    by_cases h:p.1=3
    ·simp [h,h2 h];omega
    ·simp [h,h3 h];omega
   simp only [Fm.flat,List.cons_append,List.nil_append,rGo,hb,h1]
   simp
 | un p a ih=>
   intro r d hd
   obtain ⟨h1,h2,h3⟩:=ht
   have hb:badP E p (d+1)=false:=by
    unfold badP
    rw [h1,h2]
    have:=ne3 h1 (by omega)
    simp [this];omega
   simp only [Fm.flat,List.append_assoc]
   rw [ih h3 _ d hd]
   simp only [List.cons_append,List.nil_append,rGo,hb,h1]
   simp
 | bi p a b iha ihb=>
   intro r d hd
   obtain ⟨h1,h2,h3,h4⟩:=ht
   have hb:badP E p (d+1+1)=false:=by
    unfold badP
    rw [h1,h2]
    have:=ne3 h1 (by omega)
    simp [this];omega
   simp only [Fm.flat,List.append_assoc]
   rw [iha h3 _ d hd,ihb h4 _ (d+1) (by omega)]
   simp only [List.cons_append,List.nil_append,rGo,hb,h1]
   simp;congr 1;omega
def flats:List (Fm X)→List (Int×List X)
 | []=>[]
 | t::ts=>flats ts++t.flat
def wfs:List (Fm X)→Prop
 | []=>True
 | t::ts=>t.wf E∧wfs ts
theorem qc0:∀ (l:List (Int×List X)) (ts:List (Fm X)) (n:Int),wfs E ts→rGo E l ts.length=some n→∃ us:List (Fm X),wfs E us∧(us.length:Int)=n∧flats us=flats ts++l
 | [],ts,n,h,hr=>by
  simp only [rGo,Option.some.injEq] at hr
  exact ⟨ts,h,hr,by simp⟩
 | p::r,ts,n,h,hr=>by
   simp only [rGo] at hr
   cases hb:badP E p ts.length with
   | true=>rw [hb] at hr;simp at hr
   | false=>
     rw [hb] at hr
     simp only [Bool.false_eq_true,if_false] at hr
     unfold badP at hb
     simp only [Bool.or_eq_false_iff,decide_eq_false_iff_not,Bool.and_eq_false_iff,Bool.not_eq_false'] at hb
     obtain ⟨⟨⟨h1,h2⟩,h3⟩,h4⟩:=hb
     rcases opn_cases p.1 with ho | ho | ho | ho
     ·have hw:(Fm.nul p).wf E:=⟨ho,fun h=>by rcases h3 with h3 | h3;exact absurd h h3;exact h3,fun h=>by
       rcases h4 with h4 | h4
       ·simp at h4;exact absurd h4 h
       ·cases hp:p.2 with
        | nil=>rfl
        | cons a b=>rw [hp] at h4;simp at h4⟩
      rw [ho] at hr
      obtain ⟨us,e1,e2,e3⟩:=qc0 r (.nul p::ts) n ⟨hw,h⟩ (by rw [←hr];congr 1<;>simp)
      exact ⟨us,e1,e2,by rw [e3];simp [flats,Fm.flat]⟩
     ·have hp2:p.2=[]:=by
       have:=ne3 ho (by omega)
       rcases h4 with h4 | h4
       ·simp at h4;exact absurd h4 this
       ·cases hp:p.2 with
        | nil=>rfl
        | cons a b=>rw [hp] at h4;simp at h4
      rw [ho] at hr h2
      cases ts with
      | nil=>simp at h2
      | cons t ts=>
        obtain ⟨us,e1,e2,e3⟩:=qc0 r (.un p t::ts) n ⟨⟨ho,hp2,h.1⟩,h.2⟩ (by rw [←hr];congr 1<;>simp)
        exact ⟨us,e1,e2,by rw [e3];simp [flats,Fm.flat]⟩
     ·have hp2:p.2=[]:=by
       have:=ne3 ho (by omega)
       rcases h4 with h4 | h4
       ·simp at h4;exact absurd h4 this
       ·cases hp:p.2 with
        | nil=>rfl
        | cons a b=>rw [hp] at h4;simp at h4
      rw [ho] at hr h2
      cases ts with
      | nil=>simp at h2
      | cons t ts=>
        cases ts with
        | nil=>simp at h2
        | cons u ts=>
          obtain ⟨us,e1,e2,e3⟩:=qc0 r (.bi p u t::ts) n ⟨⟨ho,hp2,h.2.1,h.1⟩,h.2.2⟩ (by rw [←hr];congr 1<;>(simp<;>omega))
          exact ⟨us,e1,e2,by rw [e3];simp [flats,Fm.flat]⟩
     ·omega
def rightF (f:List (Int×List X)):Bool:=(match rGo E f 0 with
 | some d=>decide (d=1)
 | none=>false) && decide (f.length≤60)
theorem qe1 {f:List (Int×List X)} (h:rightF E f=true):∃ t:Fm X,t.wf E∧f=t.flat∧t.size≤60:=by
 unfold rightF at h
 simp only [Bool.and_eq_true,decide_eq_true_eq] at h
 obtain ⟨h1,h2⟩:=h
 cases hr:rGo E f 0 with
 | none=>rw [hr] at h1;cases h1
 | some d=>
   rw [hr] at h1
   simp at h1
   subst h1
   obtain ⟨us,e1,e2,e3⟩:=qc0 E f [] 1 trivial hr
   cases us with
   | nil=>simp at e2
   | cons t ts=>
     cases ts with
     | cons=>simp at e2;omega
     | nil=>
       simp [flats] at e3
       exact ⟨t,e1.1,e3.symm,by rw [←Fm.flat_len,e3];exact h2⟩
theorem qe2 {t:Fm X} (ht:t.wf E) (hs:t.size≤60):rightF E t.flat=true:=by
 unfold rightF
 have:=rGo_flat E t ht [] 0 (by omega)
 rw [List.append_nil] at this
 rw [this]
 simp [rGo,Fm.flat_len,hs]
def Fm.kids:Fm X→Nat→List (List Int)
 | .nul _,_=>[[]]
 | .un _ a,b=>a.kids b++[[((b+a.size-1:Nat):Int)]]
 | .bi _ a c,b=>a.kids b++c.kids (b+a.size)++[[((b+a.size-1:Nat):Int),((b+a.size+c.size-1:Nat):Int)]]
theorem Fm.kids_len (t:Fm X):∀ b,(t.kids b).length=t.size:=by
 induction t with
 | nul=>intro b;rfl
 | un p a ih=>intro b;simp [Fm.kids,Fm.size,ih]
 | bi p a c iha ihc=>intro b;simp [Fm.kids,Fm.size,iha,ihc];omega
end
theorem opn_prog (k:Int):M25 k=some (opn k):=by
 show T25 Ops.std k some=_
 unfold T25 opn
 simp only [qal,qaa]
 (repeat' split)<;>first | rfl | (exfalso;omega)
theorem opn_ref (k:Int):M27 k=some (opn k):=by
 show T27 Ops.std k some=_
 unfold T27 opn
 simp only [qal,qaa]
 (repeat' split)<;>first | rfl | (exfalso;omega)
abbrev Prt:=Int×List Trm
def smallF (f:List Prt):Prop:=f.length<900000∧∀ p∈f,p.2.length<900000
theorem smallF.at {f:List Prt} (h:smallF f) {i:Nat} (hi:i<f.length):(f.getD i (Ty.dflt ty61)).2.length<900000:=by
 refine h.2 _ ?_
 rw [List.getD_eq_getElem?_getD,List.getElem?_eq_getElem hi]
 exact List.getElem_mem _
def fin60 (f:List Prt) (o:Option Int):Bool:=match o with
 | some d=>decide (d=1) && decide (f.length≤60)
 | none=>false
theorem qfo (E:List Trm→Bool) (f:List Prt):rightF E f=fin60 f (rGo E f 0):=by
 unfold rightF fin60
 cases rGo E f 0<;>rfl
theorem opn_le (k:Int):-1≤opn k∧opn k≤2:=by rcases opn_cases k with h | h | h | h<;>rw [h]<;>decide
section
variable (E:List Trm→Bool) (f:List Prt) (hf:smallF f)
theorem qb9 (hE:∀ p∈f,M26 p.2=some (E p.2)) (hf:smallF f):∀ (t i n:Nat) (d:Int),i+t=f.length→t<n→0≤d→d≤i→
  R9 M25 M26 f n (.l0 d (f.length:Nat) i)=some (fin60 f (rGo E (f.drop i) d))
 | t,i,0,d,hi,hn,h0,hd=>by omega
 | 0,i,n+1,d,hi,hn,h0,hd=>by
   show T9 Ops.std _ _ f _ some _=_
   unfold T9
   simp only [qah,qal,qas,qaa]
   rw [if_neg (by omega),List.drop_eq_nil_of_le (by omega)]
   simp only [rGo,fin60]
   by_cases h1:d=1
   ·rw [if_pos h1];simp [h1];omega
   ·rw [if_neg h1];simp [h1]
 | t+1,i,n+1,d,hi,hn,h0,hd=>by
   have hlt:i<f.length:=by omega
   have ih:=fun d=>qb9 hE hf t (i+1) n d (by omega) (by omega)
   have hl:=hf.1
   show T9 Ops.std _ _ f _ some _=_
   unfold T9
   have hs:=hf.at hlt
   have hmem:f.getD i (Ty.dflt ty61)∈f:=by
    rw [List.getD_eq_getElem?_getD,List.getElem?_eq_getElem hlt]
    exact List.getElem_mem _
   rw [qa8 (Ty.dflt ty61) hlt]
   simp only [qah,qal,qas,qaj,qaa,qaw,qaf,rGo,badP]
   generalize f.getD i (Ty.dflt ty61)=p at hs hmem ⊢
   obtain ⟨hb1,hb2⟩:=opn_le p.1
   rw [if_pos (by omega),if_pos (by omega),opn_prog,ob_s]
   by_cases h1:opn p.1<0
   ·rw [if_pos h1];simp [h1,fin60]
   ·rw [if_neg h1]
    by_cases h2:d<opn p.1
    ·rw [if_pos h2];simp [h1,h2,fin60]
    ·rw [if_neg h2]
     have hw:IntKind.wrap IntKind.i64 (d+IntKind.wrap IntKind.i64 (1-opn p.1))=d+1-opn p.1:=by
      rw [wrap64 (n:=1-opn p.1) (by omega) (by omega),wrap64 (by omega) (by omega)];omega
     have hw2:IntKind.wrap IntKind.i64 ((i:Int)+1)=((i+1:Nat):Int):=qag (by omega)
     rw [hw,hw2]
     have hgo:=ih (d+1-opn p.1) (by omega) (by omega)
     by_cases h3:p.1=3
     ·rw [if_pos h3,hE _ hmem,ob_s]
      cases he:E p.2 with
      | false=>simp [h1,h2,h3,he,fin60]
      | true=>
        simp only [Bool.not_true,cond_false]
        rw [if_neg (by simp [h3])]
        refine hgo.trans ?_
        have h1':=h1
        have h2':=h2
        rw [h3] at h1' h2'
        simp [h3,he,h1',h2']
     ·rw [if_neg h3,if_pos (by simp [h3])]
      by_cases h4:(0:Int)<(p.2.length:Int)
      ·rw [if_pos h4]
       have:0<p.2.length:=by omega
       simp [h1,h2,h3,this,fin60]
      ·rw [if_neg h4]
       have:¬ 0<p.2.length:=by omega
       refine hgo.trans ?_
       simp [h1,h2,h3,this]
theorem qfp (hE:∀ p∈f,M26 p.2=some (E p.2)) (hf:smallF f):M9 f=some (rightF E f):=by
 show T9 Ops.std M25 M26 f (R9 M25 M26 f 1000000) some none=_
 unfold T9
 have:=qb9 E f hE hf f.length 0 1000000 0 (by omega) (by have:=hf.1;omega) (by omega) (by omega)
 rw [qfo]
 exact this
theorem qcj (hE:∀ p∈f,M28 p.2=some (E p.2)) (hf:smallF f):∀ (t i n:Nat) (d:Int),i+t=f.length→t<n→0≤d→d≤i→
  R10 M27 M28 f n (.l0 d i)=some (fin60 f (rGo E (f.drop i) d))
 | t,i,0,d,hi,hn,h0,hd=>by omega
 | 0,i,n+1,d,hi,hn,h0,hd=>by
   show T10 Ops.std _ _ f _ some _=_
   unfold T10
   simp only [qah,qal,qas,qaa]
   rw [if_neg (by omega),List.drop_eq_nil_of_le (by omega)]
   simp only [rGo,fin60]
   by_cases h1:d=1
   ·rw [if_pos h1];simp [h1];omega
   ·rw [if_neg h1];simp [h1]
 | t+1,i,n+1,d,hi,hn,h0,hd=>by
   have hlt:i<f.length:=by omega
   have ih:=fun d=>qcj hE hf t (i+1) n d (by omega) (by omega)
   have hl:=hf.1
   show T10 Ops.std _ _ f _ some _=_
   unfold T10
   have hs:=hf.at hlt
   have hmem:f.getD i (Ty.dflt ty61)∈f:=by
    rw [List.getD_eq_getElem?_getD,List.getElem?_eq_getElem hlt]
    exact List.getElem_mem _
   rw [qa8 (Ty.dflt ty61) hlt]
   simp only [qah,qal,qas,qaj,qaa,qaw,qaf,rGo,badP]
   generalize f.getD i (Ty.dflt ty61)=p at hs hmem ⊢
   obtain ⟨hb1,hb2⟩:=opn_le p.1
   have hin:(0:Int)≤i∧(i:Int)<(f.length:Int):=by omega
   simp only [if_pos hin]
   rw [if_pos (by omega),opn_ref,ob_s]
   by_cases h1:opn p.1<0
   ·rw [if_pos h1];simp [h1,fin60]
   ·rw [if_neg h1]
    by_cases h2:d<opn p.1
    ·rw [if_pos h2];simp [h1,h2,fin60]
    ·rw [if_neg h2]
     have hw:IntKind.wrap IntKind.i64 (IntKind.wrap IntKind.i64 (d-opn p.1)+1)=d+1-opn p.1:=by
      rw [wrap64 (n:=d-opn p.1) (by omega) (by omega),wrap64 (by omega) (by omega)];omega
     have hw2:IntKind.wrap IntKind.i64 ((i:Int)+1)=((i+1:Nat):Int):=qag (by omega)
     rw [hw,hw2]
     have hgo:=ih (d+1-opn p.1) (by omega) (by omega)
     by_cases h3:p.1=3
     ·rw [if_pos h3,hE _ hmem,ob_s]
      cases he:E p.2 with
      | false=>simp [h1,h2,h3,he,fin60]
      | true=>
        simp only [Bool.not_true,cond_false]
        rw [if_neg (by simp [h3])]
        refine hgo.trans ?_
        have h1':=h1
        have h2':=h2
        rw [h3] at h1' h2'
        simp [h3,he,h1',h2']
     ·rw [if_neg h3,if_pos (by simp [h3])]
      by_cases h4:(0:Int)<(p.2.length:Int)
      ·rw [if_pos h4]
       have:0<p.2.length:=by omega
       simp [h1,h2,h3,this,fin60]
      ·rw [if_neg h4]
       have:¬ 0<p.2.length:=by omega
       refine hgo.trans ?_
       simp [h1,h2,h3,this]
theorem right_ref (hE:∀ p∈f,M28 p.2=some (E p.2)) (hf:smallF f):M10 f=some (rightF E f):=by
 show T10 Ops.std M27 M28 f (R10 M27 M28 f 1000000) some none=_
 unfold T10
 have:=qcj E f hE hf f.length 0 1000000 0 (by omega) (by have:=hf.1;omega) (by omega) (by omega)
 rw [qfo]
 exact this
end
def opE (k:Int):Int:=if k<1∨16<k then -1 else if k≤3 then 0 else if k≤5 then 1 else 2
theorem qc1 (k:Int):M59 k=some (opE k):=by
 show T59 Ops.std k some=_
 unfold T59 opE
 simp only [qal,qas,qah,qaa]
 (repeat' split)<;>first | rfl | (exfalso;omega)
theorem qe3 (k:Int):M61 k=some (opE k):=by
 show T61 Ops.std k some=_
 unfold T61 opE
 simp only [qal,qas,qah,qaa]
 (repeat' split)<;>first | rfl | (exfalso;omega)
def mayT (t:Trm):Bool:=
 if t.1=1 then decide (0≤t.2.1) && decide (t.2.1≤999) && (t.2.2.1 == []) && (t.2.2.2 == [])
 else if t.1=2 then decide (t.2.1=0) && isWordP t.2.2.1 && (t.2.2.2 == [])
 else if t.1=3 then decide (t.2.1=0) && isWordP t.2.2.1 && isWordP t.2.2.2
 else decide (0<opE t.1) && decide (t.2.1=0) && (t.2.2.1 == []) && (t.2.2.2 == [])
theorem may_prog (a b:Int) (c d:List UInt8):M60 a b c d=some (mayT (a,b,c,d)):=by
 show T60 Ops.std M96 M59 a b c d some=_
 unfold T60 mayT
 simp only [qal,qas,qah,qaa,isWord_prog,qc1,ob_s]
 by_cases h1:a=1
 ·simp only [h1,if_true]
  by_cases h2:0≤b<;>by_cases h3:b≤999<;>cases hc:(c == ([]:List UInt8))<;>simp [h2,h3,hc]
 ·simp only [h1,if_false]
  by_cases h2:a=2
  ·simp only [h2,if_true]
   by_cases h3:b=0<;>cases hc:isWordP c<;>simp [h3,hc]
  ·simp only [h2,if_false]
   by_cases h3:a=3
   ·simp only [h3,if_true]
    by_cases h4:b=0<;>cases hc:isWordP c<;>simp [h4,hc]
   ·simp only [h3,if_false]
    by_cases h4:0<opE a<;>by_cases h5:b=0<;>cases hc:(c == ([]:List UInt8))<;>simp [h4,h5,hc]
def eGo:List Trm→Int→Option Int
 | [],d=>some d
 | p::r,d=>if !mayT p || decide (d<opE p.1) then none else eGo r (d+1-opE p.1)
def fin30 (f:List Trm) (o:Option Int):Bool:=match o with
 | some d=>decide (d=1) && decide (f.length≤30)
 | none=>false
def rightE (e:List Trm):Bool:=fin30 e (eGo e 0)
theorem opE_le (k:Int):-1≤opE k∧opE k≤2:=by unfold opE;(repeat' split)<;>omega
theorem mayT_op {t:Trm} (h:mayT t=true):0≤opE t.1:=by
 unfold mayT at h
 unfold opE at *
 (repeat' split at h)<;>(repeat' split)<;>simp_all<;>omega
theorem qb2 (f:List Trm) (hf:f.length<900000):∀ (t i n:Nat) (d:Int),i+t=f.length→t<n→0≤d→d≤i→
  R26 M59 M60 f n (.l0 d (f.length:Nat) i)=some (fin30 f (eGo (f.drop i) d))
 | t,i,0,d,hi,hn,h0,hd=>by omega
 | 0,i,n+1,d,hi,hn,h0,hd=>by
   show T26 Ops.std _ _ f _ some _=_
   unfold T26
   simp only [qah,qal,qas,qaa]
   rw [if_neg (by omega),List.drop_eq_nil_of_le (by omega)]
   simp only [eGo,fin30]
   by_cases h1:d=1
   ·rw [if_pos h1];simp [h1];omega
   ·rw [if_neg h1];simp [h1]
 | t+1,i,n+1,d,hi,hn,h0,hd=>by
   have hlt:i<f.length:=by omega
   have ih:=fun d=>qb2 f hf t (i+1) n d (by omega) (by omega)
   show T26 Ops.std _ _ f _ some _=_
   unfold T26
   rw [qa8 (Ty.dflt ty63) hlt]
   simp only [qah,qal,qas,qaj,qaa,qaw,qaf,eGo]
   generalize f.getD i (Ty.dflt ty63)=p
   obtain ⟨hb1,hb2⟩:=opE_le p.1
   rw [if_pos (by omega),if_pos (by omega),qc1,ob_s,may_prog,ob_s]
   have hp:mayT (p.1,p.2.1,p.2.2.1,p.2.2.2)=mayT p:=rfl
   rw [hp]
   cases hm:mayT p with
   | false=>simp [fin30]
   | true=>
     have:=mayT_op hm
     simp only [Bool.not_true,cond_false,Bool.false_or]
     by_cases h2:d<opE p.1
     ·rw [if_pos h2];simp [h2,fin30]
     ·rw [if_neg h2]
      have hw:IntKind.wrap IntKind.i64 (d+IntKind.wrap IntKind.i64 (1-opE p.1))=d+1-opE p.1:=by
       rw [wrap64 (n:=1-opE p.1) (by omega) (by omega),wrap64 (by omega) (by omega)];omega
      rw [hw,show IntKind.wrap IntKind.i64 ((i:Int)+1)=((i+1:Nat):Int) from qag (by omega),ih _ (by omega) (by omega)]
      simp [h2]
theorem qbx (f:List Trm) (hf:f.length<900000):M26 f=some (rightE f):=by
 show T26 Ops.std M59 M60 f (R26 M59 M60 f 1000000) some none=_
 unfold T26
 exact qb2 f hf f.length 0 1000000 0 (by omega) (by omega) (by omega) (by omega)
noncomputable abbrev rightER (f:List Trm):=R28 M61 M62 f
def smallE (f:List Trm):Prop:=f.length<900000∧∀ p∈f,p.2.2.1.length<900000∧p.2.2.2.length<900000
theorem smallE.at {f:List Trm} (h:smallE f) {i:Nat} (hi:i<f.length):(f.getD i (Ty.dflt ty63)).2.2.1.length<900000∧(f.getD i (Ty.dflt ty63)).2.2.2.length<900000:=by
 refine h.2 _ ?_
 rw [List.getD_eq_getElem?_getD,List.getElem?_eq_getElem hi]
 exact List.getElem_mem _
theorem qca (f:List Trm) (hf:smallE f):∀ (t i n:Nat) (d:Int),i+t=f.length→3*t<n→0≤d→d≤i→
  rightER f n (.l0 d i)=some (fin30 f (eGo (f.drop i) d))
 | t,i,0,d,hi,hn,h0,hd=>by omega
 | 0,i,n+1,d,hi,hn,h0,hd=>by
   show T28 Ops.std _ _ f _ some _=_
   unfold T28
   simp only [qah,qal,qas,qaa]
   rw [if_neg (by omega),List.drop_eq_nil_of_le (by omega)]
   simp only [eGo,fin30]
   by_cases h1:d=1
   ·rw [if_pos h1];simp [h1];omega
   ·rw [if_neg h1];simp [h1]
 | t+1,i,n+1,d,hi,hn,h0,hd=>by
   have hlt:i<f.length:=by omega
   obtain ⟨m,rfl⟩:∃ m,n=m+2:=⟨n-2,by omega⟩
   have ih:=fun d=>qca f hf t (i+1) m d (by omega) (by omega)
   have hl:=hf.1
   have hs:=hf.at hlt
   have e18:∀ a:Int,-1≤a→a≤2→rightER f (m+1) (.l1018 d i a)=rightER f m (.l0 (d+1-a) ((i+1:Nat):Int)):=fun a ha1 ha2=>by
    show T28 Ops.std _ _ f _ some _=_
    unfold T28
    show rightER f m (.l0 (IntKind.wrap IntKind.i64 (IntKind.wrap IntKind.i64 (d-a)+1)) (IntKind.wrap IntKind.i64 ((i:Int)+1)))=_
    rw [wrap64 (n:=d-a) (by omega) (by omega),wrap64 (n:=d-a+1) (by omega) (by omega),show IntKind.wrap IntKind.i64 ((i:Int)+1)=((i+1:Nat):Int) from qag (by omega)]
    congr 2;omega
   show T28 Ops.std _ _ f _ some _=_
   unfold T28
   rw [qa8 (Ty.dflt ty63) hlt]
   simp only [qah,qal,qas,qaj,qaa,qaw,qaf,eGo]
   generalize f.getD i (Ty.dflt ty63)=p at hs ⊢
   obtain ⟨hb1,hb2⟩:=opE_le p.1
   rw [if_pos (by omega),if_pos (by omega),qe3,ob_s]
   have e16:∀ (w2:Int) (w3 w4:List UInt8),(opE p.1<0∨¬ (w2=p.2.1∧w3=p.2.2.1∧w4=p.2.2.2)∨p.2.1<0∨999<p.2.1∨(p.1=2∧isWordP p.2.2.1=false)∨(p.1=3∧(isWordP p.2.2.1 && isWordP p.2.2.2)=false)↔mayT p=false)→
     rightER f (m+2) (.l1016 d i (opE p.1) p.1 p.2.1 p.2.2.1 p.2.2.2 p.1 w2 w3 w4)=some (fin30 f (if !mayT p || decide (d<opE p.1) then none else eGo (f.drop (i+1)) (d+1-opE p.1))):=fun w2 w3 w4 hw=>by
    show T28 Ops.std _ _ f _ some _=_
    unfold T28
    simp only [qah,qal,qas,qaj,qaa,qa2 _ hs.1,qa2 _ hs.2,ob_s]
    have g18:=e18 (opE p.1) hb1 hb2
    cases hm:mayT p with
    | false=>
      have hbad:=hw.2 hm
      simp only [Bool.not_false,Bool.true_or,if_true,fin30]
      by_cases h1:opE p.1<0
      ·rw [if_pos h1]
      ·rw [if_neg h1]
       by_cases h2:d<opE p.1
       ·rw [if_pos h2]
       ·rw [if_neg h2]
        by_cases h3:w2=p.2.1∧w3=p.2.2.1∧w4=p.2.2.2
        ·obtain ⟨rfl,rfl,rfl⟩:=h3
         simp only [decide_true,beq_self_eq_true,Bool.and_self,Bool.not_true,cond_false]
         by_cases h4:p.2.1<0
         ·rw [if_pos h4]
         ·rw [if_neg h4]
          by_cases h5:999<p.2.1
          ·rw [if_pos h5]
          ·rw [if_neg h5]
           have h6:(p.1=2∧isWordP p.2.2.1=false)∨(p.1=3∧(isWordP p.2.2.1 && isWordP p.2.2.2)=false):=by
            rcases hbad with h | h | h | h | h | h
            ·exact absurd h h1
            ·exact absurd ⟨rfl,rfl,rfl⟩ h
            ·exact absurd h h4
            ·exact absurd h h5
            ·exact .inl h
            ·exact .inr h
           rcases h6 with ⟨h6,h7⟩ | ⟨h6,h7⟩
           ·rw [if_pos h6,h7];rfl
           ·rw [if_neg (by omega),if_pos h6]
            cases ha:isWordP p.2.2.1 with
            | false=>rfl
            | true=>
              rw [ha] at h7
              simp only [Bool.true_and] at h7
              simp only [Bool.not_true,cond_false,h7,Bool.not_false,cond_true]
              rw [if_pos h6]
        ·have:(!(decide True && (decide (p.2.1=w2) && (p.2.2.1 == w3 && (p.2.2.2 == w4 && true)))))=true:=by
          rw [Bool.not_eq_true',Bool.eq_false_iff]
          intro hx
          simp only [Bool.and_eq_true,decide_eq_true_eq,beq_iff_eq] at hx
          exact h3 ⟨hx.2.1.symm,hx.2.2.1.symm,hx.2.2.2.1.symm⟩
         rw [this];rfl
    | true=>
      have hgood:¬ (opE p.1<0∨¬ (w2=p.2.1∧w3=p.2.2.1∧w4=p.2.2.2)∨p.2.1<0∨999<p.2.1∨(p.1=2∧isWordP p.2.2.1=false)∨(p.1=3∧(isWordP p.2.2.1 && isWordP p.2.2.2)=false)):=fun h=>by
       have:=hw.1 h;rw [hm] at this;cases this
      simp only [not_or,Classical.not_not] at hgood
      obtain ⟨h1,⟨rfl,rfl,rfl⟩,h4,h5,h6,h7⟩:=hgood
      simp only [Bool.not_true,Bool.false_or,decide_true,beq_self_eq_true,Bool.and_self,cond_false]
      rw [if_neg h1]
      by_cases h2:d<opE p.1
      ·rw [if_pos h2];simp [h2,fin30]
      ·rw [if_neg h2,if_neg h4,if_neg h5]
       have hgo:=g18.trans (ih (d+1-opE p.1) (by omega) (by omega))
       have hres:(if decide (d<opE p.1)=true then none else eGo (f.drop (i+1)) (d+1-opE p.1))=eGo (f.drop (i+1)) (d+1-opE p.1):=by simp [h2]
       rw [hres]
       by_cases h8:p.1=2
       ·have ha:isWordP p.2.2.1=true:=by
         cases ha:isWordP p.2.2.1 with
         | true=>rfl
         | false=>exact absurd ⟨h8,ha⟩ h6
        rw [if_pos h8,ha]
        simp only [Bool.not_true,cond_false]
        rw [if_neg (by omega)]
        exact hgo
       ·rw [if_neg h8]
        by_cases h9:p.1=3
        ·have hab:(isWordP p.2.2.1 && isWordP p.2.2.2)=true:=by
          cases hab:(isWordP p.2.2.1 && isWordP p.2.2.2) with
          | true=>rfl
          | false=>exact absurd ⟨h9,hab⟩ h7
         simp only [Bool.and_eq_true] at hab
         rw [if_pos h9,hab.1]
         simp only [Bool.not_true,cond_false]
         rw [if_pos h9,hab.2]
         simp only [Bool.not_true,cond_false]
         exact hgo
        ·rw [if_neg h9,if_neg h9]
         exact hgo
   by_cases h1:p.1=1
   ·rw [if_pos h1]
    refine e16 p.2.1 [] [] ?_
    have hop:opE p.1=0:=by rw [h1];rfl
    have hmt:mayT p=(decide (0≤p.2.1) && decide (p.2.1≤999) && (p.2.2.1 == []) && (p.2.2.2 == [])):=by unfold mayT;rw [if_pos h1]
    rw [hmt]
    simp only [Bool.and_eq_false_iff,decide_eq_false_iff_not,beq_eq_false_iff_ne]
    constructor
    ·intro h
     rcases h with h | h | h | h | h | h
     ·omega
     ·by_cases h2:p.2.2.1=[]
      ·exact .inr fun h3=>h ⟨trivial,h2.symm,h3.symm⟩
      ·exact .inl (.inr h2)
     ·exact .inl (.inl (.inl (by omega)))
     ·exact .inl (.inl (.inr (by omega)))
     ·omega
     ·omega
    ·intro h
     rcases h with ((h | h) | h) | h
     ·exact .inr (.inr (.inl (by omega)))
     ·exact .inr (.inr (.inr (.inl (by omega))))
     ·exact .inr (.inl fun h2=>h h2.2.1.symm)
     ·exact .inr (.inl fun h2=>h h2.2.2.symm)
   ·rw [if_neg h1]
    by_cases h2:p.1=2
    ·rw [if_pos h2]
     refine e16 0 p.2.2.1 [] ?_
     have hop:opE p.1=0:=by rw [h2];rfl
     have hmt:mayT p=(decide (p.2.1=0) && isWordP p.2.2.1 && (p.2.2.2 == [])):=by unfold mayT;rw [if_neg h1,if_pos h2]
     rw [hmt]
     simp only [Bool.and_eq_false_iff,decide_eq_false_iff_not,beq_eq_false_iff_ne]
     constructor
     ·intro h
      rcases h with h | h | h | h | h | h
      ·omega
      ·by_cases h3:p.2.1=0
       ·exact .inr fun h4=>h ⟨h3.symm,trivial,h4.symm⟩
       ·exact .inl (.inl h3)
      ·exact .inl (.inl (by omega))
      ·exact .inl (.inl (by omega))
      ·exact .inl (.inr h.2)
      ·omega
     ·intro h
      rcases h with (h | h) | h
      ·exact .inr (.inl fun h3=>h h3.1.symm)
      ·exact .inr (.inr (.inr (.inr (.inl ⟨h2,h⟩))))
      ·exact .inr (.inl fun h3=>h h3.2.2.symm)
    ·rw [if_neg h2]
     by_cases h3:p.1=3
     ·rw [if_pos h3]
      refine e16 0 p.2.2.1 p.2.2.2 ?_
      have hop:opE p.1=0:=by rw [h3];rfl
      have hmt:mayT p=(decide (p.2.1=0) && isWordP p.2.2.1 && isWordP p.2.2.2):=by unfold mayT;rw [if_neg h1,if_neg h2,if_pos h3]
      rw [hmt]
      simp only [Bool.and_eq_false_iff,decide_eq_false_iff_not]
      constructor
      ·intro h
       rcases h with h | h | h | h | h | h
       ·omega
       ·by_cases h4:p.2.1=0
        ·exact absurd ⟨h4.symm,trivial,trivial⟩ h
        ·exact .inl (.inl h4)
       ·exact .inl (.inl (by omega))
       ·exact .inl (.inl (by omega))
       ·omega
       ·rcases h.2 with h | h
        ·exact .inl (.inr h)
        ·exact .inr h
      ·intro h
       rcases h with (h | h) | h
       ·exact .inr (.inl fun h4=>h h4.1.symm)
       ·exact .inr (.inr (.inr (.inr (.inr ⟨h3,.inl h⟩))))
       ·exact .inr (.inr (.inr (.inr (.inr ⟨h3,.inr h⟩))))
     ·rw [if_neg h3]
      refine e16 0 [] [] ?_
      have hmt:mayT p=(decide (0<opE p.1) && decide (p.2.1=0) && (p.2.2.1 == []) && (p.2.2.2 == [])):=by unfold mayT;rw [if_neg h1,if_neg h2,if_neg h3]
      rw [hmt]
      simp only [Bool.and_eq_false_iff,decide_eq_false_iff_not,beq_eq_false_iff_ne]
      constructor
      ·intro h
       rcases h with h | h | h | h | h | h
       ·exact .inl (.inl (.inl (by omega)))
       ·by_cases h4:p.2.1=0
        ·by_cases h5:p.2.2.1=[]
         ·exact .inr fun h6=>h ⟨h4.symm,h5.symm,h6.symm⟩
         ·exact .inl (.inr h5)
        ·exact .inl (.inl (.inr h4))
       ·exact .inl (.inl (.inr (by omega)))
       ·exact .inl (.inl (.inr (by omega)))
       ·exact absurd h.1 (by omega)
       ·exact absurd h.1 (by omega)
      ·intro h
       rcases h with ((h | h) | h) | h
       ·refine .inl ?_
        unfold opE at h ⊢
        (repeat' split at h)<;>(repeat' split)<;>omega
       ·exact .inr (.inl fun h4=>h h4.1.symm)
       ·exact .inr (.inl fun h4=>h h4.2.1.symm)
       ·exact .inr (.inl fun h4=>h h4.2.2.symm)
theorem qdp (f:List Trm) (hf:smallE f) (h3:f.length<300000):M28 f=some (rightE f):=by
 show T28 Ops.std M61 M62 f (rightER f 1000000) some none=_
 unfold T28
 exact qca f hf f.length 0 1000000 0 (by omega) (by omega) (by omega) (by omega)
theorem toks_len {l:List Tok} (h:toksOK l):0<l.length:=by
 obtain ⟨q,x,rfl,_⟩:=h;simp
theorem qcn {l:List Tok} (h:toksOK l) {i:Nat} (hi:i<l.length) (d:Tok):(i+1<l.length∨(l.getD i d).1=5)∧tokOK (l.getD i d)∧((l.getD i d).1=5→i+1=l.length):=by
 obtain ⟨q,x,rfl,hq⟩:=h
 simp only [List.length_append,List.length_cons,List.length_nil] at hi ⊢
 by_cases hlt:i<q.length
 ·have hg:(q++[(5,[],0,x)]).getD i d=q[i]:=by
   rw [List.getD_eq_getElem?_getD,List.getElem?_append_left hlt,List.getElem?_eq_getElem hlt];rfl
  rw [hg]
  have:=hq _ (List.getElem_mem hlt)
  exact ⟨.inl (by omega),this.2,fun h=>absurd h this.1⟩
 ·have hi':i=q.length:=by omega
  subst hi'
  rw [qat]
  exact ⟨.inr rfl,⟨fun h=>(by cases h),fun h=>(by cases h)⟩,fun _=>rfl⟩
theorem qau {l:List Tok} (h:toksOK l) {i:Nat} (hi:i<l.length) (d:Tok) (hk:(l.getD i d).1≠5):i+1<l.length:=by
 rcases (qcn h hi d).1 with h1 | h1
 ·exact h1
 ·exact absurd h1 hk
def goodE (e:List Trm):Prop:=∀ (r:List Trm) (d:Int),0≤d→eGo (e++r) d=eGo r (d+1)
theorem goodE.nul {t:Trm} (h:mayT t=true) (ho:opE t.1=0):goodE [t]:=fun r d hd=>by
 simp only [List.cons_append,List.nil_append,eGo,h,ho]
 rw [if_neg (by simp;omega)]
 congr 1;omega
theorem goodE.un {e:List Trm} {t:Trm} (he:goodE e) (h:mayT t=true) (ho:opE t.1=1):goodE (e++[t]):=fun r d hd=>by
 rw [List.append_assoc,he _ d hd]
 simp only [List.cons_append,List.nil_append,eGo,h,ho]
 rw [if_neg (by simp;omega)]
 congr 1;omega
theorem goodE.bi {e e2:List Trm} {t:Trm} (he:goodE e) (he2:goodE e2) (h:mayT t=true) (ho:opE t.1=2):goodE (e++e2++[t]):=fun r d hd=>by
 rw [List.append_assoc,List.append_assoc,he _ d hd,he2 _ (d+1) (by omega)]
 simp only [List.cons_append,List.nil_append,eGo,h,ho]
 rw [if_neg (by simp;omega)]
 congr 1;omega
theorem goodE.right {e:List Trm} (h:goodE e) (hl:e.length≤30):rightE e=true:=by
 have:=h [] 0 (by omega)
 rw [List.append_nil] at this
 unfold rightE
 rw [this]
 simp [eGo,fin30,hl]
theorem qfq {k:Int} (h:4≤k) (h2:k≤16):mayT (k,0,[],[])=true:=by
 have:0<opE k:=by unfold opE;(repeat' split)<;>omega
 unfold mayT
 rw [if_neg (by show ¬ k=1;omega),if_neg (by show ¬ k=2;omega),if_neg (by show ¬ k=3;omega)]
 simp [this]
abbrev tkD (l:List Tok) (a:Nat):Tok:=l.getD a (Ty.dflt ty52)
def isS (l:List Tok) (a:Nat) (w:List UInt8):Bool:=decide ((tkD l a).1=4) && ((tkD l a).2.1 == w)
def sgW (w:List UInt8):Int×Nat:=
 if w=[42] then (6,5) else if w=[43] then (7,4) else if w=[45] then (8,4) else if w=[60] then (9,3) else if w=[60,61] then (10,3) else if w=[62] then (11,3) else if w=[62,61] then (12,3) else if w=[61,61] then (13,3) else if w=[33,61] then (14,3) else if w=[38,38] then (15,2) else if w=[124,124] then (16,1) else (0,0)
def sgE (l:List Tok) (a:Nat):Int×Nat:=if (tkD l a).1=4 then sgW (tkD l a).2.1 else (0,0)
theorem sgW_cases (w:List UInt8):sgW w=(0,0)∨(6≤(sgW w).1∧(sgW w).1≤16):=by
 unfold sgW
 (repeat' split)<;>decide
theorem sgE_op {l:List Tok} {a n:Nat} (h:(sgE l a).2=n) (hn:1≤n):6≤(sgE l a).1∧(sgE l a).1≤16∧(tkD l a).1=4:=by
 unfold sgE at h ⊢
 by_cases hk:(tkD l a).1=4
 ·rw [if_pos hk] at h ⊢
  rcases sgW_cases (tkD l a).2.1 with hc | hc
  ·rw [hc] at h;have h:0=n:=h;omega
  ·exact ⟨hc.1,hc.2,hk⟩
 ·rw [if_neg hk] at h;have h:0=n:=h;omega
theorem mayN {n:Int} (h:0≤n∧n≤999):mayT (1,n,[],[])=true:=by simp [mayT,h]
theorem mayV {w:List UInt8} (h:isWordP w=true):mayT (2,0,w,[])=true:=by simp [mayT,h]
theorem mayA {w v:List UInt8} (h:isWordP w=true) (h2:isWordP v=true):mayT (3,0,w,v)=true:=by simp [mayT,h,h2]
inductive PS where
 | lv (n a:Nat)
 | lp (n b:Nat) (e:List Trm)
 | un (a:Nat)
inductive PR where
 | ok (b:Nat) (e:List Trm)
 | bad (k:Nat)
def onOk (r:Option PR) (f:Nat→List Trm→Option PR):Option PR:=match r with
 | some (.ok b e)=>f b e
 | some (.bad k)=>some (.bad k)
 | none=>none
def go (l:List Tok):Nat→PS→Option PR
 | 0,_=>none
 | d+1,.lv n a=>if n=6 then go l d (.un a) else onOk (go l d (.lv (n+1) a)) fun b e=>go l d (.lp n b e)
 | d+1,.lp n b e=>if (sgE l b).2=n then onOk (go l d (.lv (n+1) (b+1))) fun c e2=>if n=3 then some (.ok c (e++e2++[((sgE l b).1,0,[],[])])) else go l d (.lp n c (e++e2++[((sgE l b).1,0,[],[])])) else some (.ok b e)
 | d+1,.un a=>
   if isS l a [33] then onOk (go l d (.un (a+1))) fun b e=>some (.ok b (e++[(4,0,[],[])]))
   else if isS l a [45] then onOk (go l d (.un (a+1))) fun b e=>some (.ok b (e++[(5,0,[],[])]))
   else if (tkD l a).1=1 then some (.ok (a+1) [(1,(tkD l a).2.2.1,[],[])])
   else if (tkD l a).1=2 then if isS l (a+1) [64] then if (tkD l (a+2)).1=2 then some (.ok (a+3) [(3,0,(tkD l a).2.1,(tkD l (a+2)).2.1)]) else some (.bad (a+2)) else some (.ok (a+1) [(2,0,(tkD l a).2.1,[])])
   else if isS l a [40] then onOk (go l d (.lv 1 (a+1))) fun b e=>if isS l b [41] then some (.ok (b+1) e) else some (.bad b)
   else some (.bad a)
def PE (l:List Tok) (s:PS) (r:PR):Prop:=∃ d0,∀ d,d0≤d→go l d s=some r
theorem PE.run {l:List Tok} {s:PS} {r:PR} (h:PE l s r):∃ d,go l d s=some r:=by
 obtain ⟨d,h⟩:=h
 exact ⟨d,h d (Nat.le_refl _)⟩
section
variable {l:List Tok}
theorem isS_4 {a:Nat} {w:List UInt8} (h:isS l a w=true):(tkD l a).1=4:=by
 unfold isS at h
 simp only [Bool.and_eq_true,decide_eq_true_eq] at h
 exact h.1
def PS.at:PS→Nat
 | .lv _ a=>a
 | .lp _ b _=>b
 | .un a=>a
def PS.lvl:PS→Nat
 | .lv n _=>n
 | .lp n _ _=>n
 | .un _=>6
def Bd (l:List Tok):PS→PR→Prop
 | .lp _ a e0,.ok b e=>a≤b∧b<l.length∧e.length≤e0.length+(b-a)∧(goodE e0→goodE e)
 | s,.ok b e=>s.at<b∧b<l.length∧e.length≤b-s.at∧goodE e
 | s,.bad k=>s.at≤k∧k<l.length
theorem qc2 {r:Option PR} {f:Nat→List Trm→Option PR} {q:PR} (h:onOk r f=some q):(∃ b e,r=some (.ok b e)∧f b e=some q)∨∃ k,r=some (.bad k)∧q=.bad k:=by
 cases r with
 | none=>cases h
 | some x=>
   cases x with
   | ok b e=>exact .inl ⟨b,e,rfl,h⟩
   | bad k=>exact .inr ⟨k,rfl,(Option.some.inj h).symm⟩
theorem qdq (hl:toksOK l):∀ (d:Nat) (s:PS) (r:PR),1≤s.lvl→s.at<l.length→go l d s=some r→Bd l s r
 | 0,s,r,_,_,h=>by cases h
 | d+1,.lv n a,r,h1,ha,h=>by
   have ha:a<l.length:=ha
   have h1:1≤n:=h1
   rw [go] at h
   split at h
   ·have:=qdq hl d _ r (by show 1≤6;omega) (by exact ha) h
    cases r<;>exact this
   ·rcases qc2 h with ⟨b,e,g1,g2⟩ | ⟨k,g1,rfl⟩
    ·obtain ⟨i1,i2,i3,i4⟩:=qdq hl d (.lv (n+1) a) _ (by show 1≤n+1;omega) (by exact ha) g1
     have i1:a<b:=i1
     have i3:e.length≤b-a:=i3
     have:=qdq hl d (.lp n b e) r h1 i2 g2
     cases r with
     | ok c e2=>
       obtain ⟨j1,j2,j3,j4⟩:=this
       exact ⟨by show a<c;omega,j2,by show e2.length≤c-a;omega,j4 i4⟩
     | bad k=>
       obtain ⟨j1,j2⟩:=this
       have j1:b≤k:=j1
       exact ⟨by show a≤k;omega,j2⟩
    ·exact qdq hl d (.lv (n+1) a) _ (by show 1≤n+1;omega) (by exact ha) g1
 | d+1,.lp n b e,r,h1,hb,h=>by
   have hb:b<l.length:=hb
   have h1:1≤n:=h1
   rw [go] at h
   split at h
   ·rename_i hs
    obtain ⟨o1,o2,o3⟩:=sgE_op hs h1
    have hb1:=qau hl hb (Ty.dflt ty52) (by rw [o3];decide)
    have hgood:∀ e2,goodE e2→goodE e→goodE (e++e2++[((sgE l b).1,0,[],[])]):=fun e2 h2 h=>h.bi h2 (qfq (by omega) o2) (by
     show opE (sgE l b).1=2
     unfold opE;(repeat' split)<;>omega)
    rcases qc2 h with ⟨c,e2,g1,g2⟩ | ⟨k,g1,rfl⟩
    ·obtain ⟨i1,i2,i3,i4⟩:=qdq hl d (.lv (n+1) (b+1)) _ (by show 1≤n+1;omega) hb1 g1
     have i1:b+1<c:=i1
     have i3:e2.length≤c-(b+1):=i3
     split at g2
     ·cases g2
      exact ⟨by omega,i2,by simp;omega,hgood e2 i4⟩
     ·have:=qdq hl d (.lp n c _) r h1 i2 g2
      cases r with
      | ok c' e'=>
        obtain ⟨j1,j2,j3,j4⟩:=this
        simp only [List.length_append,List.length_cons,List.length_nil] at j3
        exact ⟨by omega,j2,by omega,fun h=>j4 (hgood e2 i4 h)⟩
      | bad k=>
        obtain ⟨j1,j2⟩:=this
        have j1:c≤k:=j1
        exact ⟨by show b≤k;omega,j2⟩
    ·obtain ⟨j1,j2⟩:=qdq hl d (.lv (n+1) (b+1)) _ (by show 1≤n+1;omega) hb1 g1
     have j1:b+1≤k:=j1
     exact ⟨by show b≤k;omega,j2⟩
   ·cases h
    exact ⟨Nat.le_refl _,hb,by omega,fun h=>h⟩
 | d+1,.un a,r,h1,ha,h=>by
   have ha:a<l.length:=ha
   obtain ⟨ht1,⟨ht2,ht3⟩,ht4⟩:=qcn hl ha (Ty.dflt ty52)
   have hnx:=qau hl ha (Ty.dflt ty52)
   have pre:∀ (op:Int),(op=4∨op=5)→(tkD l a).1=4→onOk (go l d (.un (a+1))) (fun b e=>some (.ok b (e++[(op,0,[],[])])))=some r→Bd l (.un a) r:=fun op hop h4 h=>by
    have hb1:=hnx (by rw [h4];decide)
    rcases qc2 h with ⟨c,e2,g1,g2⟩ | ⟨k,g1,rfl⟩
    ·obtain ⟨i1,i2,i3,i4⟩:=qdq hl d (.un (a+1)) _ (by show 1≤6;omega) hb1 g1
     have i1:a+1<c:=i1
     have i3:e2.length≤c-(a+1):=i3
     cases g2
     refine ⟨by show a<c;omega,i2,by show _≤c-a;simp;omega,i4.un (qfq (by omega) (by omega)) ?_⟩
     show opE op=1
     unfold opE;(repeat' split)<;>omega
    ·obtain ⟨j1,j2⟩:=qdq hl d (.un (a+1)) _ (by show 1≤6;omega) hb1 g1
     have j1:a+1≤k:=j1
     exact ⟨by show a≤k;omega,j2⟩
   rw [go] at h
   split at h
   ·rename_i hs;exact pre 4 (.inl rfl) (isS_4 hs) h
   ·split at h
    ·rename_i hs;exact pre 5 (.inr rfl) (isS_4 hs) h
    ·split at h
     ·rename_i hk
      have hb1:=hnx (by rw [hk];decide)
      have hn:=ht2 hk
      cases h
      refine ⟨by show a<a+1;omega,hb1,by show 1≤a+1-a;omega,goodE.nul (mayN hn) rfl⟩
     ·split at h
      ·rename_i hk
       have hb1:=hnx (by rw [hk];decide)
       have hn:=ht3 hk
       split at h
       ·rename_i hs
        have hb2:=qau hl hb1 (Ty.dflt ty52) (by rw [isS_4 hs];decide)
        split at h
        ·rename_i hk2
         have hb3:=qau hl hb2 (Ty.dflt ty52) (by rw [hk2];decide)
         have hn2:=(qcn hl hb2 (Ty.dflt ty52)).2.1.2 hk2
         cases h
         refine ⟨by show a<a+3;omega,hb3,by show 1≤a+3-a;omega,goodE.nul (mayA hn hn2) rfl⟩
        ·cases h
         exact ⟨by show a≤a+2;omega,hb2⟩
       ·cases h
        refine ⟨by show a<a+1;omega,hb1,by show 1≤a+1-a;omega,goodE.nul (mayV hn) rfl⟩
      ·split at h
       ·rename_i hs
        have hb1:=hnx (by rw [isS_4 hs];decide)
        rcases qc2 h with ⟨c,e2,g1,g2⟩ | ⟨k,g1,rfl⟩
        ·obtain ⟨i1,i2,i3,i4⟩:=qdq hl d (.lv 1 (a+1)) _ (Nat.le_refl 1) hb1 g1
         have i1:a+1<c:=i1
         have i3:e2.length≤c-(a+1):=i3
         split at g2
         ·rename_i hs2
          have hb2:=qau hl i2 (Ty.dflt ty52) (by rw [isS_4 hs2];decide)
          cases g2
          exact ⟨by show a<c+1;omega,hb2,by show _≤c+1-a;omega,i4⟩
         ·cases g2
          exact ⟨by show a≤c;omega,i2⟩
        ·obtain ⟨j1,j2⟩:=qdq hl d (.lv 1 (a+1)) _ (Nat.le_refl 1) hb1 g1
         have j1:a+1≤k:=j1
         exact ⟨by show a≤k;omega,j2⟩
       ·cases h
        exact ⟨Nat.le_refl _,ha⟩
theorem PE.bd {s:PS} {r:PR} (h:PE l s r) (hl:toksOK l) (h1:1≤s.lvl) (ha:s.at<l.length):Bd l s r:=by
 obtain ⟨d,h⟩:=h.run
 exact qdq hl d s r h1 ha h
end
section
variable {l:List Tok}
end
abbrev RS:=List Tok×Int×Int×List Trm
def Rd (l:List Tok) (a:Nat) (out:List Trm) (o:Option RS):Prop:=
 ∃ (a':Nat) (bad:Int) (out':List Trm),o=some (l,(a':Int),bad,out')∧a≤a'∧a'<l.length∧out'.length≤out.length+(a'-a)∧
   ((bad = -1∧a<a'∧∃ e,goodE e∧out'=out++e)∨(0≤bad∧bad<l.length))
theorem qc3 (k:Int):∃ v,M74 k=some v:=by
 show ∃ v,T74 Ops.std k some=some v
 unfold T74
 simp only [qal,qaa]
 repeat' (first | exact ⟨_,rfl⟩ | apply ite_some)
theorem qe4 (k:Int) (w:List UInt8) (n x lv:Int):∀ (t j m:Nat),j+t=17→t<m→6≤j→
  ∃ op:Int,R130 M74 k w n x lv m (.l0 j)=some op∧(op=0∨(6≤op∧op≤16))
 | t,j,0,hj,hm,h6=>by omega
 | 0,j,m+1,hj,hm,h6=>by
   refine ⟨0,?_,.inl rfl⟩
   show T130 Ops.std _ k w n x lv _ some _=_
   unfold T130
   simp only [qas,qaa]
   rw [if_neg (by omega)]
 | t+1,j,m+1,hj,hm,h6=>by
   have ih:=qe4 k w n x lv t (j+1) m (by omega) (by omega) (by omega)
   show ∃ op:Int,T130 Ops.std _ k w n x lv _ some _=some op∧_
   unfold T130
   have hw:IntKind.wrap IntKind.i64 ((j:Int)+1)=((j+1:Nat):Int):=qag (by omega)
   simp only [qas,qaj,qal,qaa,hw]
   rw [if_pos (by omega),if_pos (by omega)]
   obtain ⟨v,hv⟩:=qc3 (j:Int)
   rw [hv,ob_s]
   cases ((([[],[],[],[],[],[],[42],[43],[45],[60],[60,61],[62],[62,61],[61,61],[33,61],[38,38],[124,124]]:List (List UInt8)).getD (Int.toNat (j:Int)) []) == w) with
   | false=>exact ih
   | true=>
     simp only [cond_true]
     by_cases hv2:v=lv
     ·rw [if_pos hv2];exact ⟨_,rfl,.inr (by omega)⟩
     ·rw [if_neg hv2];exact ih
theorem binary_ok (k:Int) (w:List UInt8) (n x lv:Int):∃ op:Int,M130 k w n x lv=some op∧(op=0∨(6≤op∧op≤16∧k=4)):=by
 show ∃ op:Int,T130 Ops.std M74 k w n x lv (R130 M74 k w n x lv 1000000) some none=some op∧_
 unfold T130
 simp only [qal,qaw,qaa]
 by_cases hk:k=4
 ·rw [if_neg (fun h=>h hk)]
  obtain ⟨op,h1,h2⟩:=qe4 k w n x lv 11 6 1000000 (by omega) (by omega) (by omega)
  refine ⟨op,h1,?_⟩
  rcases h2 with h2 | h2
  ·exact .inl h2
  ·exact .inr ⟨h2.1,h2.2,hk⟩
 ·rw [if_pos hk];exact ⟨0,rfl,.inl rfl⟩
theorem is_ok (w:List UInt8) (l:List Tok) (a:Nat) (ha:a<l.length) (bad:Int) (out:List Trm):∃ b:Bool,M134 w l a bad out=some (b,l,(a:Int),bad,out)∧(b=true→(l.getD a (Ty.dflt ty52)).1=4):=by
 show ∃ b:Bool,T134 Ops.std w l a bad out some=_∧_
 unfold T134
 simp only [qaj,qal,qaa,qaf]
 rw [if_pos (by omega)]
 by_cases h:(l.getD a (Ty.dflt ty52)).1=4
 ·rw [if_pos h,if_pos (by omega)];exact ⟨_,rfl,fun _=>h⟩
 ·rw [if_neg h];exact ⟨false,rfl,fun h=>(by cases h)⟩
theorem fail_ok (l:List Tok) (a:Nat) (bad:Int) (out:List Trm):∃ b:Int,M135 l a bad out=some (l,(a:Int),b,out)∧(bad = -1→b=a):=by
 show ∃ b:Int,T135 Ops.std l a bad out some=_∧_
 unfold T135
 simp only [qah,qaa]
 by_cases h:bad<0
 ·rw [if_pos h];exact ⟨_,rfl,fun _=>rfl⟩
 ·rw [if_neg h];exact ⟨_,rfl,fun h2=>(by omega)⟩
section
variable {l:List Tok} (hl:toksOK l)
noncomputable abbrev lvR (d:Nat):=R119 (Rec119 d).2 (Rec119 d).1 M130
noncomputable abbrev unR (d:Nat):=R129 M134 (Rec119 d).2 M135 (Rec119 d).1
theorem qfr (hl:toksOK l) (hll:l.length<100000) (d:Nat) (n:Nat) (hn:n≤5) (p1:List Tok) (p2 p3:Int) (p4:List Trm) (a0:Nat) (out0:List Trm)
  (hsub:∀ (a:Nat) (out:List Trm),a0≤a→a<l.length→out.length+(l.length-a)<200000→Rd l a out ((Rec119 d).1 ((n+1:Nat):Int) l a (-1) out)) :
  ∀ (t a m:Nat) (bad:Int) (out:List Trm),l.length-a≤t→t<m→a0≤a→a<l.length→out.length+(l.length-a)<200000→out.length≤out0.length+(a-a0)→((bad = -1∧a0<a∧∃ e,goodE e∧out=out0++e)∨(0≤bad∧bad<l.length))→
    Rd l a0 out0 (lvR d n p1 p2 p3 p4 m (.l0 l a bad out))
 | t,a,0,bad,out,ht,hm,ha0,ha,ho,hol,hb=>by omega
 | 0,a,m+1,bad,out,ht,hm,ha0,ha,ho,hol,hb=>by omega
 | t+1,a,m+1,bad,out,ht,hm,ha0,ha,ho,hol,hb=>by
   show Rd l a0 out0 (T119 Ops.std _ _ _ n p1 p2 p3 p4 _ some _)
   unfold T119
   simp only [qah,qaj,qal,qan,qaa,qaf,mt,List.length_cons,List.length_nil]
   rcases hb with ⟨rfl,haa,e,he,rfl⟩ | ⟨h1,h2⟩
   ·rw [if_pos (by omega),if_pos (by omega)]
    obtain ⟨op,hop,hop2⟩:=binary_ok (l.getD a (Ty.dflt ty52)).1 (l.getD a (Ty.dflt ty52)).2.1 (l.getD a (Ty.dflt ty52)).2.2.1 (l.getD a (Ty.dflt ty52)).2.2.2 n
    rw [hop,ob_s]
    by_cases h0:op=0
    ·rw [if_pos h0]
     exact ⟨a,-1,_,rfl,ha0,ha,hol,.inl ⟨rfl,haa,e,he,rfl⟩⟩
    ·rw [if_neg h0]
     obtain ⟨g1,g2,g3⟩:6≤op∧op≤16∧(l.getD a (Ty.dflt ty52)).1=4:=by
      rcases hop2 with h | h
      ·exact absurd h h0
      ·exact h
     have hnext:=qau hl ha (Ty.dflt ty52) (by rw [g3];decide)
     have hw:IntKind.wrap IntKind.i64 ((n:Int)+1)=((n+1:Nat):Int):=qag (by omega)
     have hw2:IntKind.wrap IntKind.i64 ((a:Int)+1)=((a+1:Nat):Int):=by
      simp only [List.length_append] at ho
      exact qag (by omega)
     rw [hw,hw2]
     obtain ⟨a2,bad2,out2,f1,f2,f3,f4,f5⟩:=hsub (a+1) (out0++e) (by omega) (by omega) (by omega)
     rw [f1,ob_s]
     dsimp only
     simp only [List.length_append] at ho hol f4
     rw [if_pos (by omega)]
     have hgood:(bad2 = -1∧a0<a2∧∃ e',goodE e'∧out2++[(op,0,[],[])]=out0++e')∨(0≤bad2∧bad2<l.length):=by
      rcases f5 with ⟨rfl,h3,e2,he2,rfl⟩ | h
      ·refine .inl ⟨rfl,by omega,e++e2++[(op,0,[],[])],he.bi he2 (qfq (by omega) (by omega)) ?_,by simp⟩
       show opE op=2
       unfold opE;(repeat' split)<;>omega
      ·exact .inr h
     by_cases h3:(n:Int)=3
     ·rw [if_pos h3]
      exact ⟨a2,bad2,_,rfl,by omega,f3,by simp;omega,hgood⟩
     ·rw [if_neg h3]
      exact qfr hl hll d n hn p1 p2 p3 p4 a0 out0 hsub t a2 m bad2 _ (by omega) (by omega) (by omega) f3 (by simp;omega) (by simp;omega) hgood
   ·rw [if_neg (by omega)]
    exact ⟨a,bad,out,rfl,ha0,ha,hol,.inr ⟨h1,h2⟩⟩
abbrev UnOK (l:List Tok) (d:Nat):Prop:=∀ (a:Nat) (out:List Trm),8*(l.length-a)<d→a<l.length→out.length+(l.length-a)<200000→Rd l a out ((Rec119 d).2 l a (-1) out)
abbrev LvOK (l:List Tok) (d:Nat):Prop:=∀ (n a:Nat) (out:List Trm),1≤n→n≤6→8*(l.length-a)+(7-n)<d→a<l.length→out.length+(l.length-a)<200000→Rd l a out ((Rec119 d).1 (n:Nat) l a (-1) out)
theorem qdr (hl:toksOK l) (hll:l.length<100000) (d:Nat) (hu:UnOK l d) (hv:LvOK l d) (p0:List Tok) (p1 p2:Int) (p3:List Trm) (op:Int) (a m:Nat) (out:List Trm) (hd:8*(l.length-a)≤d) (ha:a<l.length) (ho:out.length+(l.length-a)<200000)
  (hop:op=0∨((op=4∨op=5)∧(l.getD a (Ty.dflt ty52)).1=4)):Rd l a out (unR d p0 p1 p2 p3 (m+1) (.l1006 op l a (-1) out)):=by
 show Rd l a out (T129 Ops.std _ _ _ _ p0 p1 p2 p3 _ some _)
 unfold T129
 have hw1:IntKind.wrap IntKind.i64 ((a:Int)+1)=((a+1:Nat):Int):=qag (by omega)
 simp only [qah,qas,qaj,qal,qan,qaa,qaw,qaf,mt,List.length_cons,List.length_nil,hw1]
 by_cases h0:op=0
 ·rw [if_neg (fun h=>h h0),if_pos (by omega)]
  obtain ⟨ht1,⟨ht2,ht3⟩,ht4⟩:=qcn hl ha (Ty.dflt ty52)
  have hnx:=qau hl ha (Ty.dflt ty52)
  generalize hg:l.getD a (Ty.dflt ty52)=tk at *
  by_cases hk1:tk.1=1
  ·have hn:=ht2 hk1
   have hnext:=hnx (by rw [hk1];decide)
   rw [if_pos hk1,if_pos (by omega)]
   refine ⟨a+1,-1,_,rfl,by omega,hnext,by simp,.inl ⟨rfl,by omega,[(1,tk.2.2.1,[],[])],goodE.nul ?_ rfl,rfl⟩⟩
   simp [mayT,hn]
  ·rw [if_neg hk1]
   by_cases hk2:tk.1=2
   ·have hn:=ht3 hk2
    have hnext:=hnx (by rw [hk2];decide)
    rw [if_pos hk2]
    obtain ⟨b,hb,hb2⟩:=is_ok [64] l (a+1) hnext (-1) out
    rw [hb,ob_s]
    dsimp only
    cases b with
    | false=>
      simp only [cond_false]
      rw [if_pos (by omega)]
      refine ⟨a+1,-1,_,rfl,by omega,hnext,by simp,.inl ⟨rfl,by omega,[(2,0,tk.2.1,[])],goodE.nul ?_ rfl,rfl⟩⟩
      simp [mayT,hn]
    | true=>
      simp only [cond_true]
      have hnext2:=qau hl hnext (Ty.dflt ty52) (by rw [hb2 rfl];decide)
      have hw2:IntKind.wrap IntKind.i64 (((a+1:Nat):Int)+1)=((a+1+1:Nat):Int):=qag (by omega)
      have hw3:IntKind.wrap IntKind.i64 (((a+1+1:Nat):Int)+1)=((a+1+1+1:Nat):Int):=qag (by omega)
      simp only [hw2,hw3,qaf]
      have hin:(0:Int)≤((a+1+1:Nat):Int)∧((a+1+1:Nat):Int)<(l.length:Int):=by omega
      simp only [if_pos hin]
      have hkk:=qcn hl hnext2 (Ty.dflt ty52)
      have hnx2:=qau hl hnext2 (Ty.dflt ty52)
      by_cases hk3:(l.getD (a+1+1) (Ty.dflt ty52)).1=2
      ·have hnext3:=hnx2 (by rw [hk3];decide)
       rw [if_neg (fun h=>h hk3),if_pos (by omega)]
       refine ⟨a+1+1+1,-1,_,rfl,by omega,hnext3,by simp;omega,.inl ⟨rfl,by omega,[(3,0,tk.2.1,(l.getD (a+1+1) (Ty.dflt ty52)).2.1)],goodE.nul ?_ rfl,rfl⟩⟩
       have:=hkk.2.1.2 hk3
       simp [mayT,hn]
       simpa using this
      ·rw [if_pos hk3]
       obtain ⟨b',hf,hf2⟩:=fail_ok l (a+1+1) (-1) out
       rw [hf,ob_s]
       have:=hf2 rfl
       subst this
       dsimp only
       exact ⟨a+1+1,_,_,rfl,by omega,hnext2,by simp,.inr ⟨by omega,by omega⟩⟩
   ·rw [if_neg hk2]
    obtain ⟨b,hb,hb2⟩:=is_ok [40] l a ha (-1) out
    rw [hb,ob_s]
    dsimp only
    cases b with
    | false=>
      simp only [cond_false]
      obtain ⟨b',hf,hf2⟩:=fail_ok l a (-1) out
      rw [hf,ob_s]
      have:=hf2 rfl
      subst this
      dsimp only
      exact ⟨a,_,_,rfl,by omega,ha,by simp,.inr ⟨by omega,by omega⟩⟩
    | true=>
      simp only [cond_true,hw1]
      rw [hg] at hb2
      have hnext:=hnx (by rw [hb2 rfl];decide)
      obtain ⟨a2,bad2,out2,f1,f2,f3,f4,f5⟩:=hv 1 (a+1) out (by omega) (by omega) (by omega) hnext (by omega)
      have f1':(Rec119 d).1 1 l ((a+1:Nat):Int) (-1) out=some (l,(a2:Int),bad2,out2):=f1
      rw [f1',ob_s]
      dsimp only
      rcases f5 with ⟨rfl,h3,e,he,rfl⟩ | ⟨h3,h4⟩
      ·rw [if_neg (by omega)]
       obtain ⟨b2,hb3,hb4⟩:=is_ok [41] l a2 f3 (-1) (out++e)
       rw [hb3,ob_s]
       dsimp only
       cases b2 with
       | false=>
         simp only [Bool.not_false,cond_true]
         obtain ⟨b',hf,hf2⟩:=fail_ok l a2 (-1) (out++e)
         rw [hf,ob_s]
         have:=hf2 rfl
         subst this
         dsimp only
         exact ⟨a2,_,_,rfl,by omega,f3,by omega,.inr ⟨by omega,by omega⟩⟩
       | true=>
         simp only [Bool.not_true,cond_false]
         have hnext2:=qau hl f3 (Ty.dflt ty52) (by rw [hb4 rfl];decide)
         have hw2:IntKind.wrap IntKind.i64 ((a2:Int)+1)=((a2+1:Nat):Int):=qag (by omega)
         rw [hw2]
         exact ⟨a2+1,-1,_,rfl,by omega,hnext2,by omega,.inl ⟨rfl,by omega,e,he,rfl⟩⟩
      ·rw [if_pos h3]
       exact ⟨a2,bad2,out2,rfl,by omega,f3,by omega,.inr ⟨h3,h4⟩⟩
 ·obtain ⟨hop1,hk4⟩:(op=4∨op=5)∧(l.getD a (Ty.dflt ty52)).1=4:=by
   rcases hop with h | h
   ·exact absurd h h0
   ·exact h
  have hnext:=qau hl ha (Ty.dflt ty52) (by rw [hk4];decide)
  rw [if_pos h0]
  obtain ⟨a2,bad2,out2,f1,f2,f3,f4,f5⟩:=hu (a+1) out (by omega) hnext (by omega)
  rw [f1,ob_s]
  dsimp only
  rw [if_pos (by omega)]
  refine ⟨a2,bad2,_,rfl,by omega,f3,by simp;omega,?_⟩
  rcases f5 with ⟨rfl,h3,e,he,rfl⟩ | h
  ·refine .inl ⟨rfl,by omega,e++[(op,0,[],[])],he.un (qfq (by omega) (by omega)) ?_,by simp⟩
   show opE op=1
   unfold opE;(repeat' split)<;>omega
  ·exact .inr h
theorem reader_ok (hl:toksOK l) (hll:l.length<100000):∀ d,LvOK l d∧UnOK l d
 | 0=>⟨fun n a out _ _ h _ _=>(by omega),fun a out h _ _=>(by omega)⟩
 | d+1=>by
   obtain ⟨hv,hu⟩:=reader_ok hl hll d
   constructor
   ·intro n a out h1 h6 hd ha ho
    show Rd l a out (T119 Ops.std (Rec119 d).2 (Rec119 d).1 M130 n l a (-1) out (lvR d n l a (-1) out 1000000) some none)
    unfold T119
    simp only [qah,qaa]
    by_cases h5:n=6
    ·rw [if_pos (by omega)]
     obtain ⟨a2,bad2,out2,f1,f2⟩:=hu a out (by omega) ha ho
     rw [f1,ob_s]
     exact ⟨a2,bad2,out2,rfl,f2⟩
    ·rw [if_neg (by omega),show IntKind.wrap IntKind.i64 ((n:Int)+1)=((n+1:Nat):Int) from qag (by omega)]
     obtain ⟨a2,bad2,out2,f1,f2,f3,f4,f5⟩:=hv (n+1) a out (by omega) (by omega) (by omega) ha ho
     rw [f1,ob_s]
     dsimp only
     exact qfr hl hll d n (by omega) l a (-1) out a out (fun a' out' h1 h2 h3=>hv (n+1) a' out' (by omega) (by omega) (by omega) h2 h3) (l.length-a2) a2 1000000 bad2 out2 (by omega) (by omega) f2 f3 (by omega) f4 f5
   ·intro a out hd ha ho
    show Rd l a out (T129 Ops.std M134 (Rec119 d).2 M135 (Rec119 d).1 l a (-1) out (unR d l a (-1) out 1000000) some none)
    unfold T129
    simp only [qas,qaa]
    rw [if_neg (by omega)]
    obtain ⟨b1,g1,g2⟩:=is_ok [33] l a ha (-1) out
    rw [g1,ob_s]
    dsimp only
    cases b1 with
    | true=>exact qdr hl hll d hu hv l a (-1) out 4 a 999999 out (by omega) ha ho (.inr ⟨.inl rfl,g2 rfl⟩)
    | false=>
      simp only [cond_false]
      obtain ⟨b2,g3,g4⟩:=is_ok [45] l a ha (-1) out
      rw [g3,ob_s]
      dsimp only
      cases b2 with
      | true=>exact qdr hl hll d hu hv l a (-1) out 5 a 999999 out (by omega) ha ho (.inr ⟨.inr rfl,g4 rfl⟩)
      | false=>exact qdr hl hll d hu hv l a (-1) out 0 a 999999 out (by omega) ha ho (.inl rfl)
theorem take_ok (hl:toksOK l) (hll:l.length<100000) (a:Nat) (ha:a<l.length):∃ (k:Nat) (e:Int) (x:List Trm),M84 l a=some ((k:Int),e,x)∧k<l.length∧
  ((e=0∧a<k∧rightE x=true∧x.length≤30)∨(e=2∧x=[])∨(e=13∧x=[]∧k=a)):=by
 show ∃ (k:Nat) (e:Int) (x:List Trm),T84 Ops.std M119 l a some=_∧_
 unfold T84
 simp only [qas,qah,qaa]
 obtain ⟨a2,bad,out,f1,f2,f3,f4,f5⟩:=(reader_ok hl hll 1000000).1 1 a [] (by omega) (by omega) (by omega) ha (by simp;omega)
 have f1':M119 1 l (a:Int) (-1) []=some (l,(a2:Int),bad,out):=f1
 rw [f1',ob_s]
 dsimp only
 rcases f5 with ⟨rfl,h1,e,he,hx⟩ | ⟨h1,h2⟩
 ·have hx:out=e:=by simpa using hx
  subst hx
  rw [if_neg (by omega)]
  by_cases h30:30<out.length
  ·rw [if_pos (by omega)]
   exact ⟨a,13,[],rfl,ha,.inr (.inr ⟨rfl,rfl,rfl⟩)⟩
  ·rw [if_neg (by omega)]
   exact ⟨a2,0,out,rfl,f3,.inl ⟨rfl,h1,he.right (by omega),by omega⟩⟩
 ·rw [if_pos h1]
  refine ⟨bad.toNat,2,[],?_,by omega,.inr (.inl ⟨rfl,rfl⟩)⟩
  rw [Int.toNat_of_nonneg h1]
end
section
variable {f:List Prt} {Run:Nat→Nat→List (List Int)→List Int→Option (List (List Int))} {E:List Trm→Bool}
end
section
variable (E:List Trm→Bool)
end
structure At (f:List Prt) (K:List (List Int)) (t:Fm Trm) (b:Nat):Prop where
 parts:∃ pre post,f=pre++t.flat++post∧pre.length=b
 kids:∃ pre post,K=pre++t.kids b++post∧pre.length=b
section
variable {f:List Prt} {K:List (List Int)} {b:Nat}
theorem At.len {t:Fm Trm} (h:At f K t b):b+t.size≤f.length∧b+t.size≤K.length:=by
 obtain ⟨⟨pre,post,h1,h2⟩,⟨kp,kq,h3,h4⟩⟩:=h
 constructor
 ·rw [h1];simp only [List.length_append,t.flat_len,h2];omega
 ·rw [h3];simp only [List.length_append,t.kids_len,h4];omega
theorem At.un {p:Prt} {a:Fm Trm} (h:At f K (.un p a) b):At f K a b:=by
 obtain ⟨⟨pre,post,h1,h2⟩,⟨kp,kq,h3,h4⟩⟩:=h
 exact ⟨⟨pre,[p]++post,by rw [h1];simp [Fm.flat],h2⟩,⟨kp,[[((b+a.size-1:Nat):Int)]]++kq,by rw [h3];simp [Fm.kids],h4⟩⟩
end
theorem At.all (t:Fm Trm):At t.flat (t.kids 0) t 0:=⟨⟨[],[],by simp,rfl⟩,⟨[],[],by simp,rfl⟩⟩
section
variable (f:List Prt) (K:List (List Int)) (i:Int) (no:Bool) (out:List Prt) (d n:Nat)
end
section
variable {E:List Trm→Bool}
end
section
variable {E:List Trm→Bool}
end
def shortP (p:Prt):Prop:=p.2.length≤30∧∀ t∈p.2,t.2.2.1.length≤8∧t.2.2.2.length≤8
def goodF (e:List Prt):Prop:=(∀ (r:List Prt) (d:Int),0≤d→rGo rightE (e++r) d=rGo rightE r (d+1))∧∀ p∈e,shortP p
theorem shortP.nil (k:Int):shortP (k,[]):=⟨by simp,by simp⟩
theorem badP_of {p:Prt} {d:Int} (h1:0≤opn p.1) (h2:opn p.1≤d) (h3:p.1=3→rightE p.2=true) (h4:p.1≠3→p.2=[]):badP rightE p d=false:=by
 unfold badP
 by_cases h:p.1=3
 ·rw [h] at h1 h2
  simp [h,h3 h];omega
 ·simp [h,h4 h];omega
theorem goodF.nul {p:Prt} (ho:opn p.1=0) (h3:p.1=3→rightE p.2=true) (h4:p.1≠3→p.2=[]) (hs:shortP p):goodF [p]:=by
 refine ⟨fun r d hd=>?_,by simpa using hs⟩
 simp only [List.cons_append,List.nil_append,rGo,badP_of (by omega) (by omega:opn p.1≤d) h3 h4,ho]
 simp
theorem goodF.un {e:List Prt} {k:Int} (he:goodF e) (ho:opn k=1):goodF (e++[(k,[])]):=by
 refine ⟨fun r d hd=>?_,fun p hp=>?_⟩
 ·rw [List.append_assoc,he.1 _ d hd]
  have hk:k≠3:=ne3 ho (by omega)
  have hb:badP rightE ((k,[]):Prt) (d+1)=false:=badP_of (p:=(k,[])) (by show 0≤opn k;omega) (by show opn k≤d+1;omega) (fun h=>absurd h hk) (fun _=>rfl)
  simp only [List.cons_append,List.nil_append,rGo,hb,ho]
  simp
 ·rcases List.mem_append.1 hp with h | h
  ·exact he.2 p h
  ·simp at h;subst h;exact shortP.nil k
theorem goodF.bi {e e2:List Prt} {k:Int} (he:goodF e) (he2:goodF e2) (ho:opn k=2):goodF (e++e2++[(k,[])]):=by
 refine ⟨fun r d hd=>?_,fun p hp=>?_⟩
 ·rw [List.append_assoc,List.append_assoc,he.1 _ d hd,he2.1 _ (d+1) (by omega)]
  have hk:k≠3:=ne3 ho (by omega)
  have hb:badP rightE ((k,[]):Prt) (d+1+1)=false:=badP_of (p:=(k,[])) (by show 0≤opn k;omega) (by show opn k≤d+1+1;omega) (fun h=>absurd h hk) (fun _=>rfl)
  simp only [List.cons_append,List.nil_append,rGo,hb,ho]
  simp;congr 1;omega
 ·rcases List.mem_append.1 hp with h | h
  ·rcases List.mem_append.1 h with h | h
   ·exact he.2 p h
   ·exact he2.2 p h
  ·simp at h;subst h;exact shortP.nil k
theorem goodF.right {e:List Prt} (h:goodF e) (hl:e.length≤60):rightF rightE e=true:=by
 have:=h.1 [] 0 (by omega)
 rw [List.append_nil] at this
 unfold rightF
 rw [this]
 simp [rGo,hl]
theorem eGo_may:∀ (e:List Trm) (d n:Int),eGo e d=some n→∀ t∈e,mayT t=true
 | [],d,n,h,t,ht=>by simp at ht
 | p::r,d,n,h,t,ht=>by
   simp only [eGo] at h
   split at h
   ·cases h
   ·rename_i hc
    simp only [Bool.or_eq_true,Bool.not_eq_true',not_or,Bool.not_eq_false] at hc
    rcases List.mem_cons.1 ht with rfl | ht
    ·exact hc.1
    ·exact eGo_may r _ n h t ht
theorem qec {w:List UInt8} (h:isWordP w=true):w.length≤8:=by
 cases w with
 | nil=>simp
 | cons b r=>
   simp only [isWordP,Bool.and_eq_true,decide_eq_true_eq] at h
   simpa using h.2
theorem may_len {t:Trm} (h:mayT t=true):t.2.2.1.length≤8∧t.2.2.2.length≤8:=by
 unfold mayT at h
 split at h
 ·simp only [Bool.and_eq_true,beq_iff_eq] at h
  rw [h.1.2,h.2];simp
 ·split at h
  ·simp only [Bool.and_eq_true,beq_iff_eq] at h
   rw [h.2];exact ⟨qec h.1.2,by simp⟩
  ·split at h
   ·simp only [Bool.and_eq_true] at h
    exact ⟨qec h.1.2,qec h.2⟩
   ·simp only [Bool.and_eq_true,beq_iff_eq] at h
    rw [h.1.2,h.2];simp
theorem qcb {e:List Trm} (h:rightE e=true):e.length≤30∧∀ t∈e,t.2.2.1.length≤8∧t.2.2.2.length≤8:=by
 unfold rightE fin30 at h
 cases hg:eGo e 0 with
 | none=>rw [hg] at h;cases h
 | some d=>
   rw [hg] at h
   simp only [Bool.and_eq_true,decide_eq_true_eq] at h
   exact ⟨h.2,fun t ht=>may_len (eGo_may e 0 d hg t ht)⟩
abbrev FS:=List Tok×Int×Int×Int×List Prt
def Rf (l:List Tok) (a:Nat) (out:List Prt) (o:Option FS):Prop:=
 ∃ (a':Nat) (bad pl:Int) (out':List Prt),o=some (l,(a':Int),bad,pl,out')∧a≤a'∧a'<l.length∧out'.length≤out.length+(a'-a)∧
   ((bad=0∧a<a'∧∃ e,goodF e∧out'=out++e)∨(bad≠0∧0≤pl∧pl<l.length))
theorem qco (w:List UInt8) (l:List Tok) (a:Nat) (ha:a<l.length) (bad pl:Int) (out:List Prt):∃ b:Bool,M82 w l a bad pl out=some (b,l,(a:Int),bad,pl,out)∧(b=true→(l.getD a (Ty.dflt ty52)).1=4):=by
 show ∃ b:Bool,T82 Ops.std w l a bad pl out some=_∧_
 unfold T82
 simp only [qaj,qal,qaa,qaf]
 rw [if_pos (by omega)]
 by_cases h:(l.getD a (Ty.dflt ty52)).1=4
 ·rw [if_pos h,if_pos (by omega)];exact ⟨_,rfl,fun _=>h⟩
 ·rw [if_neg h];exact ⟨false,rfl,fun h=>(by cases h)⟩
theorem qc4 (e p:Int) (l:List Tok) (a:Int) (pl:Int) (out:List Prt):M20 e p l a 0 pl out=some (l,a,e,p,out):=by
 show T20 Ops.std e p l a 0 pl out some=_
 unfold T20
 simp only [qal,qaa]
 rw [if_pos trivial]
theorem close_bad (w:List UInt8) (l:List Tok) (a bad pl:Int) (out:List Prt) (h:bad≠0):M83 w l a bad pl out=some (l,a,bad,pl,out):=by
 show T83 Ops.std M82 M20 w l a bad pl out some=_
 unfold T83
 simp only [qal,qaw,qaa]
 rw [if_pos h]
theorem close_ok {l:List Tok} (hl:toksOK l) (hll:l.length<100000) (w:List UInt8) (a:Nat) (ha:a<l.length) (pl:Int) (out:List Prt):(M83 w l a 0 pl out=some (l,((a+1:Nat):Int),0,pl,out)∧a+1<l.length)∨M83 w l a 0 pl out=some (l,(a:Int),2,(a:Int),out):=by
 have hd:M83 w l a 0 pl out=T83 Ops.std M82 M20 w l a 0 pl out some:=rfl
 rw [hd]
 unfold T83
 simp only [qal,qaw,qaa]
 obtain ⟨b,h1,h2⟩:=qco w l a ha 0 pl out
 rw [if_neg (by simp),h1,ob_s]
 dsimp only
 cases b with
 | true=>
   left
   simp only [Bool.not_true,cond_false]
   have hn:=qau hl ha (Ty.dflt ty52) (by rw [h2 rfl];decide)
   rw [show IntKind.wrap IntKind.i64 ((a:Int)+1)=((a+1:Nat):Int) from qag (by omega)]
   exact ⟨rfl,hn⟩
 | false=>
   right
   simp only [Bool.not_false,cond_true]
   rw [qc4,ob_s]
def opLv (op:Int):Prop:=op=5∨op=6∨op=7∨op=9∨op=10
def InfOK (l:List Tok) (a:Nat) (bad pl:Int) (out:List Prt) (o:Option (Int×List Tok×Int×Int×Int×List Prt)):Prop:=
 ∃ op:Int,o=some (op,l,(a:Int),bad,pl,out)∧(op=0∨(opLv op∧(l.getD a (Ty.dflt ty52)).1≠5))
theorem inf_zero (l:List Tok) (a:Nat) (bad pl:Int) (out:List Prt) (n:Nat) (p0:Int) (p1:List Tok) (p2 p3 p4:Int) (p5:List Prt):InfOK l a bad pl out (R49 M82 p0 p1 p2 p3 p4 p5 (n+1) (.l1012 l a bad pl out)):=by
 refine ⟨0,?_,.inl rfl⟩
 show T49 Ops.std _ p0 p1 p2 p3 p4 p5 _ some _=_
 unfold T49
 rfl
theorem infix_ok (l:List Tok) (a:Nat) (ha:a<l.length) (bad pl:Int) (out:List Prt) (n:Nat) (h1:1≤n) (h4:n≤4):InfOK l a bad pl out (M49 (n:Nat) l a bad pl out):=by
 have hz:=inf_zero l a bad pl out 999999 (n:Nat) l a bad pl out
 show InfOK l a bad pl out (T49 Ops.std M82 (n:Nat) l a bad pl out (R49 M82 (n:Nat) l a bad pl out 1000000) some none)
 have hin:(0:Int)≤(a:Int)∧(a:Int)<(l.length:Int):=by omega
 obtain ⟨b1,g1,g1'⟩:=qco [45,62] l a ha bad pl out
 obtain ⟨b2,g2,g2'⟩:=qco [124,124] l a ha bad pl out
 obtain ⟨b3,g3,g3'⟩:=qco [38,38] l a ha bad pl out
 have hk:∀ {x:Int},opLv x→(l.getD a (Ty.dflt ty52)).1=4→InfOK l a bad pl out (some (x,l,(a:Int),bad,pl,out)):=fun hx h=>⟨_,rfl,.inr ⟨hx,by rw [h];decide⟩⟩
 unfold T49
 have hn:n=1∨n=2∨n=3∨n=4:=by omega
 rcases hn with rfl | rfl | rfl | rfl
 ·have e2:¬ ((1:Nat):Int)=2:=by decide
  have e3:¬ ((1:Nat):Int)=3:=by decide
  have e4:¬ ((1:Nat):Int)=4:=by decide
  have e1:((1:Nat):Int)=1:=rfl
  simp only [qaj,qal,qaa,qaf,if_pos hin,if_neg e2,if_neg e3,if_neg e4,if_pos e1,g1,ob_s]
  cases b1 with
  | true=>exact hk (by unfold opLv;omega) (g1' rfl)
  | false=>exact hz
 ·have e2:¬ ((2:Nat):Int)=1:=by decide
  have e3:¬ ((2:Nat):Int)=3:=by decide
  have e4:¬ ((2:Nat):Int)=4:=by decide
  have e1:((2:Nat):Int)=2:=rfl
  simp only [qaj,qal,qaa,qaf,if_pos hin,if_neg e2,if_neg e3,if_neg e4,if_pos e1,g2,ob_s]
  cases b2 with
  | true=>exact hk (by unfold opLv;omega) (g2' rfl)
  | false=>exact hz
 ·have e2:¬ ((3:Nat):Int)=1:=by decide
  have e3:¬ ((3:Nat):Int)=2:=by decide
  have e4:¬ ((3:Nat):Int)=4:=by decide
  have e1:((3:Nat):Int)=3:=rfl
  simp only [qaj,qal,qaa,qaf,if_pos hin,if_neg e2,if_neg e3,if_neg e4,if_pos e1,g3,ob_s]
  cases b3 with
  | true=>exact hk (by unfold opLv;omega) (g3' rfl)
  | false=>exact hz
 ·have e2:¬ ((4:Nat):Int)=1:=by decide
  have e3:¬ ((4:Nat):Int)=2:=by decide
  have e4:¬ ((4:Nat):Int)=3:=by decide
  have e1:((4:Nat):Int)=4:=rfl
  simp only [qaj,qal,qaa,qaf,if_pos hin,if_neg e2,if_neg e3,if_neg e4,if_pos e1]
  by_cases hk3:(l.getD a (Ty.dflt ty52)).1=3
  ·have hk':∀ {x:Int},opLv x→InfOK l a bad pl out (some (x,l,(a:Int),bad,pl,out)):=fun hx=>⟨_,rfl,.inr ⟨hx,by rw [hk3];decide⟩⟩
   simp only [if_pos hk3]
   cases (l.getD a (Ty.dflt ty52)).2.1 == ([85]:List UInt8) with
   | true=>exact hk' (by unfold opLv;omega)
   | false=>
     simp only [cond_false]
     cases (l.getD a (Ty.dflt ty52)).2.1 == ([82]:List UInt8) with
     | true=>exact hk' (by unfold opLv;omega)
     | false=>exact hz
  ·simp only [if_neg hk3]
   exact hz
def txF (l:List Tok) (a:Nat):List UInt8:=if (tkD l a).1≠1 then (tkD l a).2.1 else []
def impW (w:List UInt8):Int:=if w=[45,62] then 7 else 0
def untW (w:List UInt8):Int:=if w=[85] then 9 else if w=[82] then 10 else 0
def ahdW (w:List UInt8):Int:=if w=[33] then 4 else if w=[88] then 8 else if w=[70] then 11 else if w=[71] then 12 else 0
def sgF (n:Nat) (w:List UInt8):Int:=
 if n=1 then impW w else if n=2 then (if w=[124,124] then 6 else 0) else if n=3 then (if w=[38,38] then 5 else 0) else if n=4 then untW w else if n=5 then ahdW w else 0
inductive FSt where
 | lv (n a:Nat)
 | lp (n b:Nat) (e:List Prt)
inductive FRs where
 | ok (b:Nat) (e:List Prt)
 | bad (k:Nat) (c:Int)
def onF (r:Option FRs) (f:Nat→List Prt→Option FRs):Option FRs:=match r with
 | some (.ok b e)=>f b e
 | some (.bad k c)=>some (.bad k c)
 | none=>none
def exF (l:List Tok) (a:Nat):PR→FRs
 | .bad k=>.bad k 2
 | .ok b e=>if 30<e.length then .bad a 13 else if txF l b=[93] then .ok (b+1) [(3,e)] else .bad b 2
def goF (l:List Tok):Nat→FSt→Option FRs
 | 0,_=>none
 | d+1,.lv n a=>
   if n=1∨n=4 then onF (goF l d (.lv (n+1) a)) fun b e=>if sgF n (txF l b)=0 then some (.ok b e) else onF (goF l d (.lv n (b+1))) fun c e2=>some (.ok c (e++e2++[(sgF n (txF l b),[])]))
   else if n=2∨n=3 then onF (goF l d (.lv (n+1) a)) fun b e=>goF l d (.lp n b e)
   else if n=5 then if sgF 5 (txF l a)=0 then goF l d (.lv 6 a) else onF (goF l d (.lv 5 (a+1))) fun b e=>some (.ok b (e++[(sgF 5 (txF l a),[])]))
   else if txF l a=[116,114,117,101] then some (.ok (a+1) [(1,[])])
   else if txF l a=[102,97,108,115,101] then some (.ok (a+1) [(2,[])])
   else if txF l a=[91] then (go l d (.lv 1 (a+1))).map (exF l a)
   else if txF l a=[40] then onF (goF l d (.lv 1 (a+1))) fun b e=>if txF l b=[41] then some (.ok (b+1) e) else some (.bad b 2)
   else some (.bad a 2)
 | d+1,.lp n b e=>if sgF n (txF l b)=0 then some (.ok b e) else onF (goF l d (.lv (n+1) (b+1))) fun c e2=>goF l d (.lp n c (e++e2++[(sgF n (txF l b),[])]))
def PF (l:List Tok) (s:FSt) (r:FRs):Prop:=∃ d0,∀ d,d0≤d→goF l d s=some r
theorem PF.run {l:List Tok} {s:FSt} {r:FRs} (h:PF l s r):∃ d,goF l d s=some r:=by
 obtain ⟨d,h⟩:=h
 exact ⟨d,h d (Nat.le_refl _)⟩
section
variable {l:List Tok}
theorem sgF_nil (n:Nat):sgF n []=0:=by
 unfold sgF
 split
 ·rfl
 split
 ·rfl
 split
 ·rfl
 split
 ·rfl
 split
 ·rfl
 rfl
theorem impW_op {w:List UInt8} (h:impW w≠0):opn (impW w)=2:=by
 unfold impW at h ⊢
 split
 ·rfl
 ·rename_i hw;rw [if_neg hw] at h;exact absurd rfl h
theorem untW_op {w:List UInt8} (h:untW w≠0):opn (untW w)=2:=by
 unfold untW at h ⊢
 split
 ·rfl
 ·rename_i hw
  rw [if_neg hw] at h
  split
  ·rfl
  ·rename_i hw;rw [if_neg hw] at h;exact absurd rfl h
theorem ahdW_op {w:List UInt8} (h:ahdW w≠0):opn (ahdW w)=1:=by
 unfold ahdW at h ⊢
 split
 ·rfl
 ·rename_i hw
  rw [if_neg hw] at h
  split
  ·rfl
  ·rename_i hw
   rw [if_neg hw] at h
   split
   ·rfl
   ·rename_i hw
    rw [if_neg hw] at h
    split
    ·rfl
    ·rename_i hw;rw [if_neg hw] at h;exact absurd rfl h
theorem qfs {n:Nat} {w:List UInt8} (h:sgF n w≠0):(n≤4→opn (sgF n w)=2)∧(n=5→opn (sgF n w)=1)∧w≠[]:=by
 refine ⟨fun hn=>?_,fun hn=>?_,fun hw=>h (by rw [hw];exact sgF_nil n)⟩
 ·unfold sgF at h ⊢
  by_cases h1:n=1
  ·rw [if_pos h1] at h ⊢;exact impW_op h
  rw [if_neg h1] at h ⊢
  by_cases h2:n=2
  ·rw [if_pos h2] at h ⊢
   split
   ·rfl
   ·rename_i hw;rw [if_neg hw] at h;exact absurd rfl h
  rw [if_neg h2] at h ⊢
  by_cases h3:n=3
  ·rw [if_pos h3] at h ⊢
   split
   ·rfl
   ·rename_i hw;rw [if_neg hw] at h;exact absurd rfl h
  rw [if_neg h3] at h ⊢
  by_cases h4:n=4
  ·rw [if_pos h4] at h ⊢;exact untW_op h
  rw [if_neg h4,if_neg (by omega)] at h
  exact absurd rfl h
 ·subst hn
  exact ahdW_op h
theorem qby (hl:toksOK l) {a:Nat} (ha:a<l.length) (h:txF l a≠[]):a+1<l.length:=by
 by_cases h5:(tkD l a).1=5
 ·exfalso
  apply h
  have hlast:=(qcn hl ha (Ty.dflt ty52)).2.2 h5
  obtain ⟨q,x,rfl,_⟩:=hl
  simp at hlast
  subst hlast
  unfold txF
  rw [show tkD (q++[(5,[],0,x)]) q.length=(5,[],0,x) from qat q _ [] _]
  rfl
 ·exact qau hl ha (Ty.dflt ty52) h5
def FSt.at:FSt→Nat
 | .lv _ a=>a
 | .lp _ b _=>b
def BdF (l:List Tok):FSt→FRs→Prop
 | .lp _ a e0,.ok b e=>a≤b∧b<l.length∧e.length≤e0.length+(b-a)∧(goodF e0→goodF e)
 | .lv _ a,.ok b e=>a<b∧b<l.length∧e.length≤b-a∧goodF e
 | s,.bad k c=>s.at≤k∧k<l.length∧(c=2∨c=13)
theorem qch {r:Option FRs} {f:Nat→List Prt→Option FRs} {q:FRs} (h:onF r f=some q):(∃ b e,r=some (.ok b e)∧f b e=some q)∨∃ k c,r=some (.bad k c)∧q=.bad k c:=by
 cases r with
 | none=>cases h
 | some x=>
   cases x with
   | ok b e=>exact .inl ⟨b,e,rfl,h⟩
   | bad k c=>exact .inr ⟨k,c,rfl,(Option.some.inj h).symm⟩
theorem qft (hl:toksOK l):∀ (d:Nat) (s:FSt) (r:FRs),(∀ n a,s=.lv n a→1≤n∧n≤6)→(∀ n b e,s=.lp n b e→n=2∨n=3)→s.at<l.length→goF l d s=some r→BdF l s r
 | 0,s,r,_,_,_,h=>by cases h
 | d+1,.lv n a,r,h1,_,ha,h=>by
   have ha:a<l.length:=ha
   have hn:=h1 n a rfl
   have lvH:∀ {n a:Nat} {r:FRs},1≤n→n≤6→a<l.length→goF l d (.lv n a)=some r→BdF l (.lv n a) r:=fun h1 h2 h3 h4=>qft hl d _ _ (fun _ _ e=>by cases e;exact ⟨h1,h2⟩) (fun _ _ _ e=>by cases e) h3 h4
   rw [goF] at h
   split at h
   ·rename_i h14
    rcases qch h with ⟨b,e,g1,g2⟩ | ⟨k,c,g1,rfl⟩
    ·obtain ⟨i1,i2,i3,i4⟩:=lvH (by omega) (by omega) ha g1
     split at g2
     ·cases g2;exact ⟨i1,i2,i3,i4⟩
     ·rename_i hs
      have hb1:=qby hl i2 (qfs hs).2.2
      rcases qch g2 with ⟨c,e2,j1,j2⟩ | ⟨k,c,j1,rfl⟩
      ·obtain ⟨k1,k2,k3,k4⟩:=lvH (by omega) (by omega) hb1 j1
       cases j2
       exact ⟨by omega,k2,by simp;omega,i4.bi k4 ((qfs hs).1 (by omega))⟩
      ·obtain ⟨k1,k2⟩:=lvH (by omega) (by omega) hb1 j1
       have k1:b+1≤k:=k1
       exact ⟨by show a≤k;omega,k2⟩
    ·have:=lvH (n:=n+1) (by omega) (by omega) ha g1
     exact this
   ·split at h
    ·rename_i h23
     rcases qch h with ⟨b,e,g1,g2⟩ | ⟨k,c,g1,rfl⟩
     ·obtain ⟨i1,i2,i3,i4⟩:=lvH (by omega) (by omega) ha g1
      have:=qft hl d (.lp n b e) r (fun _ _ e=>by cases e) (fun _ _ _ e=>by cases e;exact h23) i2 g2
      cases r with
      | ok c e'=>
        obtain ⟨k1,k2,k3,k4⟩:=this
        exact ⟨by omega,k2,by omega,k4 i4⟩
      | bad k c=>
        obtain ⟨k1,k2⟩:=this
        have k1:b≤k:=k1
        exact ⟨by show a≤k;omega,k2⟩
     ·have:=lvH (n:=n+1) (by omega) (by omega) ha g1
      exact this
    ·split at h
     ·split at h
      ·have:=lvH (by omega) (by omega) ha h
       cases r<;>exact this
      ·rename_i hs
       have hb1:=qby hl ha (qfs hs).2.2
       rcases qch h with ⟨b,e,g1,g2⟩ | ⟨k,c,g1,rfl⟩
       ·obtain ⟨i1,i2,i3,i4⟩:=lvH (by omega) (by omega) hb1 g1
        cases g2
        exact ⟨by omega,i2,by simp;omega,i4.un ((qfs hs).2.1 rfl)⟩
       ·obtain ⟨k1,k2⟩:=lvH (by omega) (by omega) hb1 g1
        have k1:a+1≤k:=k1
        exact ⟨by show a≤k;omega,k2⟩
     ·split at h
      ·rename_i ht
       cases h
       exact ⟨by omega,qby hl ha (by rw [ht];decide),by simp,goodF.nul rfl (fun h=>(by cases h)) (fun _=>rfl) (shortP.nil 1)⟩
      ·split at h
       ·rename_i ht
        cases h
        exact ⟨by omega,qby hl ha (by rw [ht];decide),by simp,goodF.nul rfl (fun h=>(by cases h)) (fun _=>rfl) (shortP.nil 2)⟩
       ·split at h
        ·rename_i ht
         have hb1:=qby hl ha (by rw [ht];decide)
         cases hg:go l d (.lv 1 (a+1)) with
         | none=>rw [hg] at h;cases h
         | some q=>
           rw [hg] at h
           cases h
           have:=qdq hl d (.lv 1 (a+1)) q (Nat.le_refl 1) hb1 hg
           cases q with
           | bad k=>
             obtain ⟨k1,k2⟩:=this
             have k1:a+1≤k:=k1
             exact ⟨by show a≤k;omega,k2,.inl rfl⟩
           | ok b e=>
             obtain ⟨k1,k2,k3,k4⟩:=this
             have k1:a+1<b:=k1
             have k3:e.length≤b-(a+1):=k3
             show BdF l (.lv n a) (if 30<e.length then .bad a 13 else if txF l b=[93] then .ok (b+1) [(3,e)] else .bad b 2)
             split
             ·exact ⟨by show a≤a;omega,ha,.inr rfl⟩
             ·split
              ·rename_i h30 hb
               have hr:=k4.right (by omega)
               exact ⟨by omega,qby hl k2 (by rw [hb];decide),by simp;omega,goodF.nul rfl (fun _=>hr) (fun h=>absurd rfl h) (qcb hr)⟩
              ·exact ⟨by show a≤b;omega,k2,.inl rfl⟩
        ·split at h
         ·rename_i ht
          have hb1:=qby hl ha (by rw [ht];decide)
          rcases qch h with ⟨b,e,g1,g2⟩ | ⟨k,c,g1,rfl⟩
          ·obtain ⟨i1,i2,i3,i4⟩:=lvH (by omega) (by omega) hb1 g1
           split at g2
           ·rename_i hb
            cases g2
            exact ⟨by omega,qby hl i2 (by rw [hb];decide),by omega,i4⟩
           ·cases g2
            exact ⟨by show a≤b;omega,i2,.inl rfl⟩
          ·obtain ⟨k1,k2⟩:=lvH (by omega) (by omega) hb1 g1
           have k1:a+1≤k:=k1
           exact ⟨by show a≤k;omega,k2⟩
         ·cases h
          exact ⟨Nat.le_refl a,ha,.inl rfl⟩
 | d+1,.lp n b e,r,_,h2,hb,h=>by
   have hb:b<l.length:=hb
   have hn:=h2 n b e rfl
   rw [goF] at h
   split at h
   ·cases h
    exact ⟨Nat.le_refl b,hb,by omega,id⟩
   ·rename_i hs
    have hb1:=qby hl hb (qfs hs).2.2
    rcases qch h with ⟨c,e2,g1,g2⟩ | ⟨k,c2,g1,rfl⟩
    ·obtain ⟨i1,i2,i3,i4⟩:=qft hl d (.lv (n+1) (b+1)) _ (fun _ _ e=>by cases e;omega) (fun _ _ _ e=>by cases e) hb1 g1
     have:=qft hl d (.lp n c _) r (fun _ _ e=>by cases e) (fun _ _ _ e=>by cases e;exact hn) i2 g2
     cases r with
     | ok c' e'=>
       obtain ⟨k1,k2,k3,k4⟩:=this
       simp only [List.length_append,List.length_cons,List.length_nil] at k3
       exact ⟨by omega,k2,by omega,fun hg=>k4 (hg.bi i4 ((qfs hs).1 (by omega)))⟩
     | bad k c3=>
       obtain ⟨k1,k2⟩:=this
       have k1:c≤k:=k1
       exact ⟨by show b≤k;omega,k2⟩
    ·obtain ⟨k1,k2⟩:=qft hl d (.lv (n+1) (b+1)) _ (fun _ _ e=>by cases e;omega) (fun _ _ _ e=>by cases e) hb1 g1
     have k1:b+1≤k:=k1
     exact ⟨by show b≤k;omega,k2⟩
theorem PF.bd (hl:toksOK l) {n a:Nat} {r:FRs} (h:PF l (.lv n a) r) (h1:1≤n) (h6:n≤6) (ha:a<l.length):BdF l (.lv n a) r:=by
 obtain ⟨d,h⟩:=h.run
 exact qft hl d _ r (fun _ _ e=>by cases e;exact ⟨h1,h6⟩) (fun _ _ _ e=>by cases e) ha h
end
section
variable {l:List Tok}
end
def parseF (l:List Tok):FRs→Int×Int×List Prt
 | .bad k c=>(c,(tkD l k).2.2.2,[])
 | .ok b e=>if (tkD l b).1=5 then (if 24<e.length then (13,0,[]) else (0,0,e)) else (2,(tkD l b).2.2.2,[])
def FParseIs (s:List UInt8) (y:Int×Int×List Prt):Prop:=
 (∃ (e x:Int) (l:List Tok),lexS s=(e,x,l)∧e≠0∧y=(e,x,[]))∨∃ (x:Int) (l:List Tok) (r:FRs),lexS s=(0,x,l)∧PF l (.lv 1 0) r∧y=parseF l r
theorem FParseIs.good {s:List UInt8} {y:Int×Int×List Prt} (h:FParseIs s y):(y.1=0∧∃ t:Fm Trm,t.wf rightE∧y.2.2=t.flat∧t.size≤24∧∀ p∈t.flat,shortP p)∨(y.1≠0∧y.2.2=[]):=by
 rcases h with ⟨e,x,l,h1,h2,rfl⟩ | ⟨x,l,r,h1,h2,rfl⟩
 ·exact .inr ⟨h2,rfl⟩
 ·obtain ⟨hl,hlen,hs⟩:=lexS_ok h1
  have hbd:=h2.bd hl (by omega) (by omega) (toks_len hl)
  cases r with
  | bad k c=>
    refine .inr ⟨?_,rfl⟩
    show c≠0
    rcases hbd.2.2 with rfl | rfl<;>decide
  | ok b e=>
    unfold parseF
    dsimp only
    by_cases h5:(tkD l b).1=5
    ·rw [if_pos h5]
     by_cases h24:24<e.length
     ·rw [if_pos h24];exact .inr ⟨by show (13:Int)≠0;decide,rfl⟩
     ·rw [if_neg h24]
      obtain ⟨t,t1,t2,t3⟩:=qe1 rightE (hbd.2.2.2.right (by omega))
      refine .inl ⟨rfl,t,t1,t2,?_,?_⟩
      ·have:=t.flat_len
       rw [←t2] at this
       omega
      ·rw [←t2];exact hbd.2.2.2.2
    ·rw [if_neg h5]
     exact .inr ⟨by show (2:Int)≠0;decide,rfl⟩
abbrev TokS:=Int×List UInt8×Int
def strip (t:Tok):TokS:=(t.1,t.2.1,t.2.2.1)
def LexTo (s r:List UInt8) (ts:List TokS):Prop:=
 ∀ (f a:Nat) (out:List Tok),(s++r).length<f→∃ (f':Nat) (tks:List Tok),tks.map strip=ts∧r.length<f'∧lexGo f (s++r) a out=lexGo f' r (a+s.length) (out++tks)
theorem LexTo.nil (r:List UInt8):LexTo [] r []:=fun f a out h=>⟨f,[],rfl,h,by simp⟩
theorem LexTo.app {s1 s2 r:List UInt8} {t1 t2:List TokS} (h1:LexTo s1 (s2++r) t1) (h2:LexTo s2 r t2):LexTo (s1++s2) r (t1++t2):=fun f a out h=>by
 rw [List.append_assoc] at h
 obtain ⟨f1,k1,e1,g1,q1⟩:=h1 f a out h
 obtain ⟨f2,k2,e2,g2,q2⟩:=h2 f1 (a+s1.length) (out++k1) g1
 refine ⟨f2,k1++k2,by rw [List.map_append,e1,e2],g2,?_⟩
 rw [List.append_assoc,q1,q2,List.length_append,List.append_assoc,Nat.add_assoc]
theorem LexTo.blank {b:UInt8} (hb:blankP b=true) (r:List UInt8):LexTo [b] r []:=fun f a out h=>by
 obtain ⟨g,rfl⟩:∃ g,f=g+1:=⟨f-1,by omega⟩
 refine ⟨g,[],rfl,by simp at h;omega,?_⟩
 simp only [List.cons_append,List.nil_append,lexGo,hb,if_true,List.length_cons,List.length_nil,List.append_nil]
theorem LexTo.tok {b:UInt8} {s r:List UInt8} {k n:Int} (ht:tokS (b::(s++r))=some (k,b::s,n)) (hb:blankP b=false):LexTo (b::s) r [(k,b::s,n)]:=fun f a out h=>by
 obtain ⟨g,rfl⟩:∃ g,f=g+1:=⟨f-1,by omega⟩
 refine ⟨g,[(k,b::s,n,(a:Int))],rfl,by simp at h;omega,?_⟩
 have hd:List.drop (b::s).length (b::(s++r))=r:=by
  rw [←List.cons_append,List.drop_left]
 simp only [List.cons_append,lexGo,hb,ht,Bool.false_eq_true,if_false,hd]
theorem qe5 {b:UInt8} {r w:List UInt8} (h1:digitP' b=false) (h2:lowerP b=false) (h3:letterP b=false) (hs:signS (b::r)=w) (hw:w≠[]):tokS (b::r)=some (4,w,0):=by
 simp only [tokS,h1,h2,h3,hs,hw,Bool.false_eq_true,if_false]
theorem signS_two {p:List UInt8} {r:List UInt8} (h:p=[60,61]∨p=[62,61]∨p=[61,61]∨p=[33,61]∨p=[38,38]∨p=[124,124]∨p=[45,62]):signS (p++r)=p:=by
 rcases h with h | h | h | h | h | h | h<;>subst h<;>simp [signS,twos]
theorem qfu {p:List UInt8} (r:List UInt8) (h:p=[60,61]∨p=[62,61]∨p=[61,61]∨p=[33,61]∨p=[38,38]∨p=[124,124]∨p=[45,62]):LexTo p r [(4,p,0)]:=by
 have hs:=signS_two (r:=r) h
 rcases h with h | h | h | h | h | h | h<;>subst h<;>exact LexTo.tok (qe5 rfl rfl rfl hs (by simp)) rfl
theorem signS_one {c:UInt8} {r:List UInt8} (h:c=40∨c=41∨c=91∨c=93∨c=64):signS (c::r)=[c]:=by
 have h2:twos.find? (fun p=>decide (1<(c::r).length) && ((c::r).take 2 == p))=none:=by
  rw [List.find?_eq_none]
  intro p hp
  simp only [twos,List.mem_cons,List.not_mem_nil,or_false] at hp
  rcases h with h | h | h | h | h<;>subst h<;>rcases hp with hp | hp | hp | hp | hp | hp | hp<;>subst hp<;>simp
 unfold signS
 rw [h2]
 rcases h with h | h | h | h | h<;>subst h<;>simp [ones]
theorem lx_one {c:UInt8} (r:List UInt8) (h:c=40∨c=41∨c=91∨c=93∨c=64):LexTo [c] r [(4,[c],0)]:=by
 have hs:=signS_one (r:=r) h
 rcases h with h | h | h | h | h<;>subst h<;>exact LexTo.tok (s:=[]) (qe5 rfl rfl rfl hs (by simp)) rfl
theorem signS_oneq {c d:UInt8} {r:List UInt8} (h:c=33∨c=60∨c=62) (hd:d≠61):signS (c::d::r)=[c]:=by
 have h2:twos.find? (fun p=>decide (1<(c::d::r).length) && ((c::d::r).take 2 == p))=none:=by
  rw [List.find?_eq_none]
  intro p hp
  simp only [twos,List.mem_cons,List.not_mem_nil,or_false] at hp
  rcases h with h | h | h<;>subst h<;>rcases hp with hp | hp | hp | hp | hp | hp | hp<;>subst hp<;>simp [hd]
 unfold signS
 rw [h2]
 rcases h with h | h | h<;>subst h<;>simp [ones]
theorem lx_oneq {c d:UInt8} (r:List UInt8) (h:c=33∨c=60∨c=62) (hd:d≠61):LexTo [c] (d::r) [(4,[c],0)]:=by
 have hs:=signS_oneq (r:=r) h hd
 rcases h with h | h | h<;>subst h<;>exact LexTo.tok (s:=[]) (qe5 rfl rfl rfl hs (by simp)) rfl
theorem qcc {c:UInt8} (r:List UInt8) (h:c=88∨c=70∨c=71∨c=85∨c=82):LexTo [c] r [(3,[c],0)]:=by
 rcases h with h | h | h | h | h<;>subst h<;>exact LexTo.tok (s:=[]) rfl rfl
def noWord (r:List UInt8):Prop:=∀ (b:UInt8) (q:List UInt8),r=b::q→wordP b=false
theorem noWord.nil:noWord []:=fun b q h=>by cases h
theorem noWord.cons {b:UInt8} {q:List UInt8} (h:wordP b=false):noWord (b::q):=fun c p e=>by cases e;exact h
theorem tw_app {p:UInt8→Bool}:∀ (w r:List UInt8),w.all p=true→(∀ b q,r=b::q→p b=false)→(w++r).takeWhile p=w
 | [],[],_,_=>rfl
 | [],b::q,_,h=>by rw [List.nil_append,List.takeWhile_cons,h b q rfl];rfl
 | a::w,r,ha,h=>by
   simp only [List.all_cons,Bool.and_eq_true] at ha
   rw [List.cons_append,List.takeWhile_cons,ha.1,if_pos rfl,tw_app w r ha.2 h]
theorem lx_word {b:UInt8} {w:List UInt8} (r:List UInt8) (hb:lowerP b=true) (hn:digitP' b=false) (hk:blankP b=false) (hw:w.all wordP=true) (hl:w.length<8) (hr:noWord r):LexTo (b::w) r [(2,b::w,0)]:=by
 refine LexTo.tok ?_ hk
 have ht:(b::(w++r)).takeWhile wordP=b::w:=by
  rw [←List.cons_append]
  exact tw_app (b::w) r (by rw [List.all_cons,hw];simp [wordP,hb]) hr
 simp only [tokS,hn,hb,ht,Bool.false_eq_true,if_false,if_true,List.length_cons]
 rw [if_pos (by omega)]
theorem lx_num {b:UInt8} (r:List UInt8) (hb:digitP' b=true) (hk:blankP b=false) (hr:noWord r):LexTo [b] r [(1,[b],valW [b])]:=by
 refine LexTo.tok (s:=[]) ?_ hk
 have ht:(b::([]++r)).takeWhile digitP'=[b]:=by
  have:=tw_app (p:=digitP') [b] r (by simp [hb]) (fun c q e=>by
   have:=hr c q e
   simp only [wordP,Bool.or_eq_false_iff] at this
   exact this.2)
  simpa using this
 simp only [tokS,hb,ht,if_true]
 rfl
inductive Sen where
 | con (b:Bool)
 | atm (i:Nat)
 | una (k:Int) (s:Sen)
 | bra (s:Sen)
 | bin (k:Int) (a b:Sen)
def unaW (k:Int):List UInt8:=if k=4 then [33] else if k=8 then [88,32] else if k=11 then [70,32] else [71,32]
def unaT (k:Int):TokS:=if k=4 then (4,[33],0) else if k=8 then (3,[88],0) else if k=11 then (3,[70],0) else (3,[71],0)
def binW (k:Int):List UInt8:=if k=5 then [32,38,38,32] else if k=6 then [32,124,124,32] else if k=7 then [32,45,62,32] else if k=9 then [32,85,32] else [32,82,32]
def binT (k:Int):TokS:=if k=5 then (4,[38,38],0) else if k=6 then (4,[124,124],0) else if k=7 then (4,[45,62],0) else if k=9 then (3,[85],0) else (3,[82],0)
def conW (b:Bool):List UInt8:=if b then [116,114,117,101] else [102,97,108,115,101]
def atmsW:List (List UInt8):=[[91,120,61,61,49,93],[91,112,64,97,93],[91,121,60,49,93],[91,113,64,98,38,38,120,62,48,93],[91,120,61,61,121,93],[91,112,64,98,93]]
def atmsT:List (List TokS):=[[(2,[120],0),(4,[61,61],0),(1,[49],1),(4,[93],0)],[(2,[112],0),(4,[64],0),(2,[97],0),(4,[93],0)],[(2,[121],0),(4,[60],0),(1,[49],1),(4,[93],0)],
 [(2,[113],0),(4,[64],0),(2,[98],0),(4,[38,38],0),(2,[120],0),(4,[62],0),(1,[48],0),(4,[93],0)],[(2,[120],0),(4,[61,61],0),(2,[121],0),(4,[93],0)],[(2,[112],0),(4,[64],0),(2,[98],0),(4,[93],0)]]
def Sen.text:Sen→List UInt8
 | .con b=>conW b
 | .atm i=>atmsW.getD i []
 | .una k s=>unaW k++s.text
 | .bra s=>[40]++(s.text++[41])
 | .bin k a b=>a.text++(binW k++b.text)
def Sen.toks:Sen→List TokS
 | .con b=>[(2,conW b,0)]
 | .atm i=>(4,[91],0)::atmsT.getD i []
 | .una k s=>unaT k::s.toks
 | .bra s=>(4,[40],0)::(s.toks++[(4,[41],0)])
 | .bin k a b=>a.toks++(binT k::b.toks)
def lvK (k:Int):Nat:=if k=7 then 1 else if k=6 then 2 else if k=5 then 3 else 4
def Sen.lv:Sen→Nat
 | .bin k _ _=>lvK k
 | _=>5
def unaK (k:Int):Prop:=k=4∨k=8∨k=11∨k=12
def binK (k:Int):Prop:=k=5∨k=6∨k=7∨k=9∨k=10
def Sen.ok:Sen→Prop
 | .con _=>True
 | .atm i=>i<6
 | .una k s=>unaK k∧s.lv=5∧s.ok
 | .bra s=>s.ok
 | .bin k a b=>binK k∧lvK k<a.lv∧lvK k≤b.lv∧(lvK k=b.lv→lvK k=1∨lvK k=4)∧a.ok∧b.ok
theorem Sen.head:∀ s:Sen,s.ok→∃ (d:UInt8) (q:List UInt8),s.text=d::q∧d≠61
 | .con b,_=>by cases b<;>exact ⟨_,_,rfl,by decide⟩
 | .atm i,h=>by
   have h:i<6:=h
   match i,h with
   | 0,_ | 1,_ | 2,_ | 3,_ | 4,_ | 5,_=>exact ⟨_,_,rfl,by decide⟩
 | .una k s,h=>by
   obtain ⟨h1,_,_⟩:=h
   rcases h1 with rfl | rfl | rfl | rfl<;>exact ⟨_,_,rfl,by decide⟩
 | .bra s,_=>⟨_,_,rfl,by decide⟩
 | .bin k a b,h=>by
   obtain ⟨d,q,e,hd⟩:=a.head h.2.2.2.2.1
   exact ⟨d,q++(binW k++b.text),by simp only [Sen.text,e,List.cons_append],hd⟩
theorem lx_una {k:Int} (hk:unaK k) {s r:List UInt8} (hs:∃ (d:UInt8) (q:List UInt8),s=d::q∧d≠61):LexTo (unaW k) (s++r) [unaT k]:=by
 obtain ⟨d,q,rfl,hd⟩:=hs
 rcases hk with rfl | rfl | rfl | rfl
 ·exact lx_oneq (q++r) (.inl rfl) hd
 ·exact (qcc _ (.inl rfl)).app (LexTo.blank (b:=32) rfl _)
 ·exact (qcc _ (.inr (.inl rfl))).app (LexTo.blank (b:=32) rfl _)
 ·exact (qcc _ (.inr (.inr (.inl rfl)))).app (LexTo.blank (b:=32) rfl _)
theorem lx_bin {k:Int} (hk:binK k) (r:List UInt8):LexTo (binW k) r [binT k]:=by
 have bl:=fun r=>LexTo.blank (b:=32) rfl r
 rcases hk with rfl | rfl | rfl | rfl | rfl
 ·exact (bl _).app ((qfu (p:=[38,38]) _ (by simp)).app (bl _))
 ·exact (bl _).app ((qfu (p:=[124,124]) _ (by simp)).app (bl _))
 ·exact (bl _).app ((qfu (p:=[45,62]) _ (by simp)).app (bl _))
 ·exact (bl _).app ((qcc (c:=85) _ (by simp)).app (bl _))
 ·exact (bl _).app ((qcc (c:=82) _ (by simp)).app (bl _))
theorem noWord.bin {k:Int} (hk:binK k) (r:List UInt8):noWord (binW k++r):=by
 rcases hk with rfl | rfl | rfl | rfl | rfl<;>exact noWord.cons rfl
theorem lx_con (b:Bool) {r:List UInt8} (hr:noWord r):LexTo (conW b) r [(2,conW b,0)]:=by
 cases b
 ·exact lx_word r rfl rfl rfl rfl (by decide) hr
 ·exact lx_word r rfl rfl rfl rfl (by decide) hr
theorem lx_w (c:UInt8) (r:List UInt8) (h:c=120∨c=121∨c=112∨c=113∨c=97∨c=98) (hr:noWord r):LexTo [c] r [(2,[c],0)]:=by
 rcases h with rfl | rfl | rfl | rfl | rfl | rfl<;>exact lx_word r rfl rfl rfl rfl (by decide) hr
theorem lx_atm {i:Nat} (hi:i<6) (r:List UInt8):LexTo (atmsW.getD i []) r ((4,[91],0)::atmsT.getD i []):=by
 have op:=fun r=>lx_one (c:=91) r (by simp)
 have cl:=lx_one (c:=93) r (by simp)
 have at_:=fun r=>lx_one (c:=64) r (by simp)
 match i,hi with
 | 0,_=>exact (op _).app ((lx_w 120 _ (by simp) (noWord.cons rfl)).app ((qfu (p:=[61,61]) _ (by simp)).app ((lx_num (b:=49) _ rfl rfl (noWord.cons rfl)).app cl)))
 | 1,_=>exact (op _).app ((lx_w 112 _ (by simp) (noWord.cons rfl)).app ((at_ _).app ((lx_w 97 _ (by simp) (noWord.cons rfl)).app cl)))
 | 2,_=>exact (op _).app ((lx_w 121 _ (by simp) (noWord.cons rfl)).app ((lx_oneq (c:=60) _ (by simp) (by decide)).app ((lx_num (b:=49) _ rfl rfl (noWord.cons rfl)).app cl)))
 | 3,_=>exact (op _).app ((lx_w 113 _ (by simp) (noWord.cons rfl)).app ((at_ _).app ((lx_w 98 _ (by simp) (noWord.cons rfl)).app ((qfu (p:=[38,38]) _ (by simp)).app ((lx_w 120 _ (by simp) (noWord.cons rfl)).app ((lx_oneq (c:=62) _ (by simp) (by decide)).app ((lx_num (b:=48) _ rfl rfl (noWord.cons rfl)).app cl)))))))
 | 4,_=>exact (op _).app ((lx_w 120 _ (by simp) (noWord.cons rfl)).app ((qfu (p:=[61,61]) _ (by simp)).app ((lx_w 121 _ (by simp) (noWord.cons rfl)).app cl)))
 | 5,_=>exact (op _).app ((lx_w 112 _ (by simp) (noWord.cons rfl)).app ((at_ _).app ((lx_w 98 _ (by simp) (noWord.cons rfl)).app cl)))
theorem Sen.lex:∀ (s:Sen),s.ok→∀ r,noWord r→LexTo s.text r s.toks
 | .con b,_,r,hr=>lx_con b hr
 | .atm i,h,r,_=>lx_atm h r
 | .una k s,h,r,hr=>(lx_una h.1 (s.head h.2.2)).app (s.lex h.2.2 r hr)
 | .bra s,h,r,hr=>(lx_one (c:=40) _ (by simp)).app ((s.lex h _ (noWord.cons rfl)).app (lx_one (c:=41) r (by simp)))
 | .bin k a b,h,r,hr=>by
   obtain ⟨hk,_,_,_,ha,hb⟩:=h
   refine (a.lex ha _ ?_).app ((lx_bin hk _).app (b.lex hb r hr))
   rw [List.append_assoc]
   exact noWord.bin hk _
theorem Sen.lexS (s:Sen) (h:s.ok) (hl:s.text.length≤60000):∃ (tks:List Tok) (x:Int),lexS s.text=(0,0,tks++[(5,[],0,x)])∧tks.map strip=s.toks:=by
 obtain ⟨f',tks,h1,h2,h3⟩:=s.lex h [] noWord.nil (s.text.length+1) 0 [] (by simp)
 rw [List.append_nil] at h3
 obtain ⟨g,rfl⟩:∃ g,f'=g+1:=⟨f'-1,by simp at h2;omega⟩
 refine ⟨tks,((0+s.text.length:Nat):Int),?_,h1⟩
 unfold Av.lexS
 rw [if_neg (by omega),h3]
 rfl
end Go.Proofs.YtkmpkebaloejhaaGreatDoor.Av
