/- The plain law of TableauTells: what its twin computes answers true. Conditions: none. -/
import Derived.Test.YtccnmhdgghjgoaaGreatDoorTt8
import Derived.Test.YtccnmhdgghjgoaaGreatDoorRead
import Derived.KernelRfl
set_option linter.unusedSimpArgs false
set_option linter.unusedVariables false
set_option maxRecDepth 100000
namespace Go.Proofs.YtccnmhdgghjgoaaGreatDoor.Av
open Go
theorem qad (a b:Int):Ops.lt Ops.std a b=decide (a<b):=rfl
theorem qak (a b:Int):Ops.eq Ops.std a b=decide (a=b):=rfl
theorem qal (n b:Nat):Ops.lim Ops.std n b=decide (n*b≤140737488355328):=rfl
theorem qas (a b:Int):Ops.le Ops.std a b=decide (a≤b):=by
 simp only [Ops.le,qad]
 by_cases h:a≤b
 ·have:¬ b<a:=by omega
  simp [h,this]
 ·have:b<a:=by omega
  simp [h,this]
theorem qag (j:Int) (n:Nat):Ops.inb Ops.std j n=decide (0≤j∧j<(n:Int)):=by
 simp only [Ops.inb,qad]
 by_cases h:j<0
 ·have:¬ (0≤j∧j<(n:Int)):=by omega
  simp [h,this]
 ·by_cases h2:j<(n:Int)
  ·have:(0≤j∧j<(n:Int)):=by omega
   simp [h,h2,this]
  ·have:¬ (0≤j∧j<(n:Int)):=by omega
   simp [h,h2,this]
theorem qaa {α:Type} (p:Prop) [Decidable p] (x y:α):cond (decide p) x y=if p then x else y:=by by_cases h:p<;>simp [h]
theorem qao (p:Prop) [Decidable p]:(!decide p)=decide (¬ p):=by by_cases h:p<;>simp [h]
theorem ob_s {α R:Type} (a:α) (f:α→Option R):ob (some a) f=f a:=rfl
theorem qdy {α:Type} (x y:α):cond true x y=x:=rfl
theorem qdz {α:Type} (x y:α):cond false x y=y:=rfl
theorem wrap64 {n:Int} (h1:-9223372036854775808≤n) (h2:n≤9223372036854775807):IntKind.wrap IntKind.i64 n=n:=wrap_id h1 h2
theorem qab (n:Nat):Int.toNat (Nat.cast n)=n:=Int.toNat_natCast n
theorem ite_dec {α:Type} (p:Prop) [Decidable p] (x y:α):(bif decide p then x else y)=if p then x else y:=qaa p x y
theorem qbg {α:Type} (l:List α) (x:α) (r:List α) (d:α):(l++x::r).getD l.length d=x:=by
 rw [List.getD_eq_getElem?_getD,List.getElem?_append_right (Nat.le_refl _)];simp
theorem ite_some {α:Type} {c:Prop} [Decidable c] {x y:Option α} (hx:∃ v,x=some v) (hy:∃ v,y=some v):∃ v,(if c then x else y)=some v:=by split<;>assumption
theorem qau {α:Type} {s:List α} {n:Nat} (d:α) (h:n<s.length):s.drop n=s.getD n d::s.drop (n+1):=by
 rw [List.drop_eq_getElem_cons h]
 congr 1
 simp [List.getD_eq_getElem?_getD,List.getElem?_eq_getElem h]
def digitP' (b:UInt8):Bool:=decide (48≤b.toNat) && decide (b.toNat≤57)
def lowerP (b:UInt8):Bool:=(decide (97≤b.toNat) && decide (b.toNat≤122)) || decide (b.toNat=95)
def wordP (b:UInt8):Bool:=lowerP b || digitP' b
def isWordP:List UInt8→Bool
 | []=>false
 | b::r=>lowerP b && r.all wordP && decide (r.length+1≤8)
theorem qer (b:UInt8):M187 (b.toNat:Int)=some (lowerP b):=by
 show T187 Ops.std _ some=_
 unfold T187 lowerP
 simp only [qas,qak,qaa]
 have e1:((97:Int)≤(b.toNat:Int))↔97≤b.toNat:=by omega
 have e2:((b.toNat:Int)≤(122:Int))↔b.toNat≤122:=by omega
 have e3:((b.toNat:Int)=(95:Int))↔b.toNat=95:=by omega
 simp only [e1,e2,e3]
 by_cases h1:97≤b.toNat<;>by_cases h2:b.toNat≤122<;>by_cases h3:b.toNat=95<;>simp [h1,h2,h3]
theorem digit_prog (b:UInt8):M192 (b.toNat:Int)=some (digitP' b):=by
 show T192 Ops.std _ some=_
 unfold T192 digitP'
 simp only [qas,qak,qaa]
 have e1:((48:Int)≤(b.toNat:Int))↔48≤b.toNat:=by omega
 have e2:((b.toNat:Int)≤(57:Int))↔b.toNat≤57:=by omega
 simp only [e1,e2]
 by_cases h1:48≤b.toNat<;>by_cases h2:b.toNat≤57<;>simp [h1,h2]
theorem qcx (b:UInt8):M103 (b.toNat:Int)=some (lowerP b):=by
 show T103 Ops.std _ some=_
 unfold T103 lowerP
 simp only [qas,qak,qaa]
 have e1:((97:Int)≤(b.toNat:Int))↔97≤b.toNat:=by omega
 have e2:((b.toNat:Int)≤(122:Int))↔b.toNat≤122:=by omega
 have e3:((b.toNat:Int)=(95:Int))↔b.toNat=95:=by omega
 simp only [e1,e2,e3]
 by_cases h1:97≤b.toNat<;>by_cases h2:b.toNat≤122<;>by_cases h3:b.toNat=95<;>simp [h1,h2,h3]
theorem qbc (b:UInt8):M104 (b.toNat:Int)=some (digitP' b):=by
 show T104 Ops.std _ some=_
 unfold T104 digitP'
 simp only [qas,qak,qaa]
 have e1:((48:Int)≤(b.toNat:Int))↔48≤b.toNat:=by omega
 have e2:((b.toNat:Int)≤(57:Int))↔b.toNat≤57:=by omega
 simp only [e1,e2]
 by_cases h1:48≤b.toNat<;>by_cases h2:b.toNat≤57<;>simp [h1,h2]
theorem within_prog (b:UInt8):M189 (b.toNat:Int)=some (wordP b):=by
 show T189 Ops.std M187 M192 _ some=_
 unfold T189 wordP
 rw [qer,digit_prog]
 simp only [ob_s]
 cases lowerP b<;>rfl
theorem run_prog {p:UInt8→Bool} {c:Int→Option Bool} (hc:∀ b:UInt8,c (b.toNat:Int)=some (p b)) (s:List UInt8) (hs:s.length<900000):F188 c s=some (s.takeWhile p):=by
 have h:∀ (t i n:Nat),i+t=s.length→t<n→R188 c s n (.l0 i)=some (s.take i++(s.drop i).takeWhile p):=by
  intro t
  induction t with
  | zero=>
    intro i n hi hn
    cases n with
    | zero=>omega
    | succ n=>
      show T188 Ops.std c s _ some _=_
      unfold T188
      simp only [qad,qag,qaa,qab]
      rw [if_neg (by omega),if_pos (by omega),List.drop_eq_nil_of_le (show s.length≤i by omega)]
      simp
  | succ t ih=>
    intro i n hi hn
    cases n with
    | zero=>omega
    | succ n=>
      have hlt:i<s.length:=by omega
      show T188 Ops.std c s _ some _=_
      unfold T188
      have hw:IntKind.wrap IntKind.i64 ((i:Int)+1)=((i+1:Nat):Int):=qaf (by omega)
      simp only [qad,qag,qaa,qab]
      rw [if_pos (by omega),if_pos (by omega),hc,ob_s,qcw hlt]
      cases hp:p (s.getD i 0) with
      | true=>
        simp only [cond_true]
        rw [hw,ih (i+1) n (by omega) (by omega),List.takeWhile_cons_of_pos hp]
        have:s.take (i+1)=s.take i++[s.getD i 0]:=by
         rw [List.take_add_one]
         simp [List.getD_eq_getElem?_getD,List.getElem?_eq_getElem hlt]
        rw [this]
        simp
      | false=>
        simp only [cond_false]
        rw [if_pos (by omega),List.takeWhile_cons_of_neg (by rw [hp];decide)]
        simp
 show T188 Ops.std c s _ some none=_
 unfold T188
 have:=h s.length 0 1000000 (by omega) (by omega)
 rw [List.take_zero,List.drop_zero,List.nil_append] at this
 exact this
theorem runW_prog (s:List UInt8) (hs:s.length<900000):M188 s=some (s.takeWhile wordP):=run_prog within_prog s hs
theorem qbz {α:Type} (p:α→Bool):∀ l:List α,l.takeWhile p=l↔l.all p=true
 | []=>by simp
 | a::l=>by
   rw [List.takeWhile_cons,List.all_cons]
   cases hp:p a with
   | true=>simp [qbz p l]
   | false=>simp
theorem qdj {b:UInt8} (h:lowerP b=true):wordP b=true:=by unfold wordP;rw [h];rfl
theorem isWord_prog (s:List UInt8):M185 s=some (isWordP s):=by
 unfold M185 F185 T185
 cases s with
 | nil=>rfl
 | cons b r=>
   simp only [qas,qag,qaa,isWordP,List.length_cons]
   have e1:(!(b::r) == ([]:List UInt8))=true:=rfl
   rw [e1,qdy]
   by_cases h8:r.length+1≤8
   ·rw [if_pos (by omega),if_pos (by omega),show (b::r).getD (Int.toNat 0) 0=b from rfl,qer,ob_s]
    cases hl:lowerP b with
    | false=>simp
    | true=>
      simp only [cond_true]
      rw [runW_prog _ (by simp;omega),ob_s]
      have hb:=qdj hl
      simp only [Bool.true_and,h8,decide_true,Bool.and_true,Option.some.injEq]
      rw [Bool.eq_iff_iff,beq_iff_eq,qbz,List.all_cons,hb,Bool.true_and]
   ·rw [if_neg (by omega)]
    simp [h8]
theorem qb7 (s:List UInt8) (hs:s.length≤9223372036854775807):∀ (t i n:Nat),i+t=s.length→t<n→
  R58 M103 M104 s n (.l0 i)=some ((bif i == 0 then (match s with | []=>true | b::r=>lowerP b && r.all wordP) else (s.drop i).all wordP) && (decide (1≤s.length) && decide (s.length≤8)))
 | t,i,0,hi,hn=>by omega
 | 0,i,n+1,hi,hn=>by
   show T58 Ops.std _ _ s _ some _=_
   unfold T58
   simp only [qad,qas,qaa]
   rw [if_neg (by omega),List.drop_eq_nil_of_le (show s.length≤i by omega)]
   cases s with
   | nil=>simp
   | cons b r=>
     have:(i == 0)=false:=by simp at hi;simp;omega
     rw [this,if_pos (by simp;omega)]
     simp
     constructor<;>intro h<;>omega
 | t+1,i,n+1,hi,hn=>by
   have hlt:i<s.length:=by omega
   have ih:=qb7 s hs t (i+1) n (by omega) (by omega)
   have hw:IntKind.wrap IntKind.i64 ((i:Int)+1)=((i+1:Nat):Int):=qaf (by omega)
   have hi1:(i+1 == 0)=false:=rfl
   rw [hi1,qdz] at ih
   show T58 Ops.std _ _ s _ some _=_
   unfold T58
   simp only [qad,qas,qak,qag,qaa,qab]
   rw [if_pos (by omega),if_pos (by omega),qcx,ob_s,hw]
   have hd:s.drop i=s.getD i 0::s.drop (i+1):=qcw hlt
   by_cases h0:i=0
   ·subst h0
    cases s with
    | nil=>simp at hlt
    | cons b r=>
      simp only [List.getD_cons_zero,beq_self_eq_true,cond_true]
      cases hb:lowerP b with
      | false=>simp
      | true=>
        simp only [Bool.not_true,cond_false,Bool.true_and]
        exact ih
   ·have hb0:(i == 0)=false:=by simp [h0]
    rw [hb0,qdz,hd,List.all_cons]
    unfold wordP
    cases hb:lowerP (s.getD i 0) with
    | true=>
      simp only [Bool.not_true,cond_false,Bool.true_or,Bool.true_and]
      exact ih
    | false=>
      simp only [Bool.not_false,cond_true,Bool.false_or]
      rw [if_neg (by omega),if_pos (by omega),qbc,ob_s]
      cases hdg:digitP' (s.getD i 0) with
      | true=>simp only [Bool.not_true,cond_false,Bool.true_and];exact ih
      | false=>simp
theorem qa0 (s:List UInt8) (hs:s.length<900000):M58 s=some (isWordP s):=by
 show T58 Ops.std M103 M104 s (R58 M103 M104 s _) some none=_
 unfold T58
 refine (qb7 s (by omega) s.length 0 _ (by omega) (by omega)).trans ?_
 cases s with
 | nil=>rfl
 | cons b r=>simp [isWordP]
abbrev Tok:=Int×List UInt8×Int×Int
def blankP (b:UInt8):Bool:=decide (b.toNat=32) || (decide (b.toNat=9) || decide (b.toNat=10))
def letterP (b:UInt8):Bool:=decide (b.toNat=88) || (decide (b.toNat=70) || (decide (b.toNat=71) || (decide (b.toNat=85) || decide (b.toNat=82))))
def valW (w:List UInt8):Int:=w.foldl (fun n b=>10*n+((b.toNat:Int)-48)) 0
def twos:List (List UInt8):=[[60,61],[62,61],[61,61],[33,61],[38,38],[124,124],[45,62]]
def ones:List UInt8:=[40,41,91,93,43,45,42,60,62,33,64,59,61]
def signS (s:List UInt8):List UInt8:=
 match twos.find? (fun p=>decide (1<s.length) && (s.take 2 == p)) with
 | some p=>p
 | none=>match ones.find? (fun b=>s.take 1 == [b]) with
   | some b=>s.take 1
   | none=>[]
def tokS (s:List UInt8):Option (Int×List UInt8×Int):=
 match s with
 | []=>none
 | b::r=>if digitP' b then (if (s.takeWhile digitP').length≤3 then some (1,s.takeWhile digitP',valW (s.takeWhile digitP')) else none)
   else if lowerP b then (if (s.takeWhile wordP).length≤8 then some (2,s.takeWhile wordP,0) else none)
   else if letterP b then some (3,[b],0)
   else if signS s=[] then none else some (4,signS s,0)
def lexGo:Nat→List UInt8→Nat→List Tok→Int×Int×List Tok
 | 0,_,at_,_=>(2,(at_:Int),[])
 | _+1,[],at_,out=>(0,0,out++[((5,[],0,(at_:Int)):Tok)])
 | f+1,b::r,at_,out=>if blankP b then lexGo f r (at_+1) out else
   match tokS (b::r) with
   | none=>(2,(at_:Int),[])
   | some (k,w,n)=>lexGo f ((b::r).drop w.length) (at_+w.length) (out++[((k,w,n,(at_:Int)):Tok)])
def lexS (s:List UInt8):Int×Int×List Tok:=if 60000<s.length then (14,0,[]) else lexGo (s.length+1) s 0 []
noncomputable abbrev signR (s:List UInt8):=R140 s
theorem qfl (s:List UInt8) (n:Nat):List.drop 0 (List.take n s)=s.take n:=by simp
def signTail (s:List UInt8):List UInt8:=match ones.find? (fun b=>s.take 1 == [b]) with
 | some b=>s.take 1
 | none=>[]
theorem ones_get (j:Nat) (hj:j<13):List.drop j (List.take (j+1) [40,41,91,93,43,45,42,60,62,33,64,59,61])=[ones.getD j 0]:=by
 match j,hj with
 | 0,_ | 1,_ | 2,_ | 3,_ | 4,_ | 5,_ | 6,_ | 7,_ | 8,_ | 9,_ | 10,_ | 11,_ | 12,_=>rfl
theorem sign_one (s:List UInt8) (hs:0<s.length):∀ (t j n:Nat),j+t=13→t<n→signR s n (.l1 j)=some (match (ones.drop j).find? (fun b=>s.take 1 == [b]) with
  | some b=>s.take 1
  | none=>[])
 | t,j,0,hj,hn=>by omega
 | 0,j,n+1,hj,hn=>by
   show T140 Ops.std s _ some _=_
   unfold T140
   simp only [qad,qaa,List.length_cons,List.length_nil]
   rw [if_neg (by omega),List.drop_eq_nil_of_le (by simp [ones];omega)]
   rfl
 | t+1,j,n+1,hj,hn=>by
   have ih:=sign_one s hs t (j+1) n (by omega) (by omega)
   show T140 Ops.std s _ some _=_
   unfold T140
   have hw:IntKind.wrap IntKind.i64 ((j:Int)+1)=((j+1:Nat):Int):=qaf (by omega)
   simp only [qad,qag,qas,qaa,List.length_cons,List.length_nil,hw,qab,qfl,ite_dec]
   rw [if_pos (by omega),if_pos (by omega),if_pos (by omega),if_pos (by omega:(0:Int)≤j),decide_eq_true (by omega:(j:Int)≤((j+1:Nat):Int)),qdy,ones_get j (by omega)]
   have hd:ones.drop j=ones.getD j 0::ones.drop (j+1):=qau 0 (by simp [ones];omega)
   rw [hd,List.find?_cons]
   have e1:List.take (Int.toNat 1) s=s.take 1:=rfl
   rw [e1]
   cases hb:(s.take 1 == [ones.getD j 0]) with
   | true=>
     simp only [cond_true]
     rw [if_pos (by omega)]
   | false=>
     simp only [cond_false]
     exact ih
theorem sign_two (s:List UInt8) (hs:0<s.length):∀ (t j n:Nat),j+t=7→t+20<n→signR s n (.l0 j)=some (match (twos.drop j).find? (fun p=>decide (1<s.length) && (s.take 2 == p)) with
  | some p=>p
  | none=>signTail s)
 | t,j,0,hj,hn=>by omega
 | 0,j,n+1,hj,hn=>by
   have h1:=sign_one s hs 13 0 n (by omega) (by omega)
   show T140 Ops.std s _ some _=_
   unfold T140
   simp only [qad,qaa]
   rw [if_neg (by omega),List.drop_eq_nil_of_le (by simp [twos];omega)]
   exact h1
 | t+1,j,n+1,hj,hn=>by
   have ih:=sign_two s hs t (j+1) n (by omega) (by omega)
   show T140 Ops.std s _ some _=_
   unfold T140
   have hw:IntKind.wrap IntKind.i64 ((j:Int)+1)=((j+1:Nat):Int):=qaf (by omega)
   have hd:twos.drop j=twos.getD j []::twos.drop (j+1):=qau [] (by simp [twos];omega)
   have hg:([[60,61],[62,61],[61,61],[33,61],[38,38],[124,124],[45,62],[],[]]:List (List UInt8)).getD j []=twos.getD j []:=by
    have hj7:j<7:=by omega
    clear hj hd hw ih hn
    match j,hj7 with
    | 0,_ | 1,_ | 2,_ | 3,_ | 4,_ | 5,_ | 6,_=>rfl
   simp only [qad,qag,qaa,hw,qab,qfl,hg]
   rw [if_pos (by omega),hd,List.find?_cons]
   by_cases h1:1<s.length
   ·rw [if_pos (by omega),if_pos (by omega),if_pos (by omega),if_pos (by omega)]
    have e1:List.take (Int.toNat 2) s=s.take 2:=rfl
    rw [e1]
    simp only [h1,decide_true,Bool.true_and]
    cases hb:(s.take 2 == twos.getD j []) with
    | true=>simp only [cond_true]
    | false=>
      simp only [cond_false]
      simp only [h1,decide_true,Bool.true_and] at ih
      exact ih
   ·rw [if_neg (by omega)]
    simp only [h1,decide_false,Bool.false_and]
    simp only [h1,decide_false,Bool.false_and] at ih
    exact ih
theorem sign_ref (s:List UInt8) (hs:0<s.length):M140 s=some (signS s):=by
 show T140 Ops.std s (signR s 1000000) some none=_
 unfold T140
 have:=sign_two s hs 7 0 1000000 (by omega) (by omega)
 exact this
theorem signS_len (s:List UInt8):(signS s).length≤2∧(signS s).length≤s.length∧s.take (signS s).length=signS s:=by
 unfold signS
 cases h:twos.find? (fun p=>decide (1<s.length) && (s.take 2 == p)) with
 | some p=>
   have h1:=List.find?_some h
   simp only [Bool.and_eq_true,decide_eq_true_eq,beq_iff_eq] at h1
   simp only []
   rw [←h1.2,List.length_take,Nat.min_eq_left (by omega)]
   exact ⟨by omega,by omega,rfl⟩
 | none=>
   simp only []
   cases h2:ones.find? (fun b=>s.take 1 == [b]) with
   | some b=>
     simp only [List.length_take]
     refine ⟨by omega,by omega,?_⟩
     cases s<;>simp
   | none=>simp
theorem qes {p:UInt8→Bool}:∀ (l:List UInt8),(l.takeWhile p).length≤l.length∧l.take (l.takeWhile p).length=l.takeWhile p
 | []=>by simp
 | a::l=>by
   rw [List.takeWhile_cons]
   cases hp:p a with
   | true=>have:=qes (p:=p) l;simp [this]
   | false=>simp
theorem tw_lt {p:UInt8→Bool}:∀ (l:List UInt8) (n:Nat),n<(l.takeWhile p).length→p (l.getD n 0)=true∧(l.takeWhile p).getD n 0=l.getD n 0
 | [],n,h=>by simp at h
 | a::l,n,h=>by
   rw [List.takeWhile_cons] at h ⊢
   cases hp:p a with
   | false=>rw [hp] at h;simp at h
   | true=>
     rw [hp] at h
     cases n with
     | zero=>simp [hp]
     | succ n=>
       simp only [if_true,List.length_cons] at h ⊢
       have:=tw_lt (p:=p) l n (by omega)
       simpa using this
theorem tw_end {p:UInt8→Bool}:∀ (l:List UInt8),(l.takeWhile p).length<l.length→p (l.getD (l.takeWhile p).length 0)=false
 | [],h=>by simp at h
 | a::l,h=>by
   rw [List.takeWhile_cons] at h ⊢
   cases hp:p a with
   | false=>simp [hp]
   | true=>
     rw [hp] at h
     simp only [if_true,List.length_cons] at h ⊢
     have:=tw_end (p:=p) l (by omega)
     simpa using this
theorem qcy (s:List UInt8) (a n:Nat):s.getD (a+n) 0=(s.drop a).getD n 0:=by
 simp [List.getD_eq_getElem?_getD,List.getElem?_drop]
theorem valW_snoc (w:List UInt8) (b:UInt8):valW (w++[b])=10*valW w+((b.toNat:Int)-48):=by simp [valW,List.foldl_append]
theorem take_snoc (w:List UInt8) (n:Nat) (h:n<w.length):w.take (n+1)=w.take n++[w.getD n 0]:=by
 rw [List.take_add_one]
 simp [List.getD_eq_getElem?_getD,List.getElem?_eq_getElem h]
theorem wrap8 {n:Int} (h1:0≤n) (h2:n≤255):IntKind.wrap IntKind.u8 n=n:=by
 have e1:(2:Int) ^ IntKind.u8.bits=256:=by decide
 have e3:IntKind.u8.signed=false:=rfl
 simp only [IntKind.wrap,e1,e3,Bool.false_and,decide_eq_true_eq]
 simp
 omega
theorem digit_val {b:UInt8} (h:digitP' b=true):48≤b.toNat∧b.toNat≤57:=by
 unfold digitP' at h
 simpa using h
theorem qfm:∀ (n:Nat) (w:List UInt8),w.length=n→(∀ b∈w,digitP' b=true)→0≤valW w∧valW w<10 ^ n:=by
 intro n
 induction n with
 | zero=>intro w hw _;cases w with
   | nil=>simp [valW]
   | cons=>simp at hw
 | succ n ih=>
   intro w hw hd
   have hne:w≠[]:=by intro h;rw [h] at hw;simp at hw
   obtain ⟨l,b,rfl⟩:∃ l b,w=l++[b]:=⟨w.dropLast,w.getLast hne,(List.dropLast_concat_getLast hne).symm⟩
   have h1:=ih l (by simpa using hw) fun b hb=>hd b (by simp [hb])
   have h2:=digit_val (hd b (by simp))
   rw [valW_snoc]
   have h3:(10:Int) ^ (n+1)=10*10 ^ n:=by rw [Int.pow_succ];omega
   rw [h3]
   generalize (10:Int) ^ n=q at h1 ⊢
   omega
theorem tw_all {p:UInt8→Bool}:∀ (l:List UInt8),∀ b∈l.takeWhile p,p b=true
 | [],b,h=>by simp at h
 | a::l,b,h=>by
   rw [List.takeWhile_cons] at h
   cases hp:p a with
   | false=>rw [hp] at h;simp at h
   | true=>
     rw [hp] at h
     simp only [if_true,List.mem_cons] at h
     rcases h with rfl | h
     ·exact hp
     ·exact tw_all (p:=p) l b h
noncomputable abbrev lexR (s:List UInt8):=R82 M104 M103 M140 s
section
variable (s:List UInt8) (hs:s.length≤60000)
theorem lexR_1032 (hs:s.length≤60000) (n a m:Nat) (ham:a+m≤s.length) (out:List Tok) (ho:out.length<100000) (k v:Int) (x:Int) :
  lexR s (n+1) (.l1032 a m out k v x)=lexR s n (.l0 ((a+m:Nat):Int) (out++[(k,(s.drop a).take m,v,x)])):=by
 show T82 Ops.std _ _ _ s _ some _=_
 unfold T82
 have hw:IntKind.wrap IntKind.i64 ((a:Int)+(m:Int))=((a+m:Nat):Int):=by rw [wrap64 (by omega) (by omega)];omega
 simp only [qag,qas,qal,qaa,hw,qab,ite_dec,mt,List.length_cons,List.length_nil]
 rw [if_pos (by omega),if_pos (by omega:(0:Int)≤a),decide_eq_true (by omega:(a:Int)≤((a+m:Nat):Int)),qdy,if_pos (by omega)]
 rw [show List.drop a (List.take (a+m) s)=(s.drop a).take m by rw [List.drop_take];congr 1;omega]
theorem lexR_digits (hs:s.length≤60000) (a:Nat) (ha:a<s.length) (out:List Tok) (x:Int) (w:List UInt8) (hw:(s.drop a).takeWhile digitP'=w):∀ (t i n:Nat) (v:Int),i+t=w.length→2*t<n→(i≤3→v=valW (w.take i))→(3<i→True)→
  (w.length≤3→∃ n',n'+2*t+1=n∧lexR s n (.l1 a i out v x)=lexR s n' (.l1032 a w.length out 1 (valW w) x))∧(3<w.length→lexR s n (.l1 a i out v x)=some (2,(a:Int),[])):=by
 intro t
 have hwl:w.length≤(s.drop a).length:=by rw [←hw];exact (qes _).1
 rw [List.length_drop] at hwl
 induction t with
 | zero=>
   intro i n v hi hn hv _
   obtain ⟨m,rfl⟩:∃ m,n=m+1:=⟨n-1,by omega⟩
   have hstep:lexR s (m+1) (.l1 a i out v x)=if (3:Int)<i then some (2,(a:Int),[]) else lexR s m (.l1032 a i out 1 v x):=by
    show T82 Ops.std _ _ _ s _ some _=_
    unfold T82
    have hwi:IntKind.wrap IntKind.i64 ((a:Int)+(i:Int))=((a+i:Nat):Int):=by rw [wrap64 (by omega) (by omega)];omega
    simp only [qad,qag,qaa,hwi,qab,mt]
    by_cases h1:a+i<s.length
    ·rw [if_pos (by omega),if_pos (by omega),qbc,ob_s,qcy]
     have hend:=tw_end (p:=digitP') (s.drop a) (by rw [hw,List.length_drop];omega)
     rw [hw,show w.length=i by omega] at hend
     rw [hend,qdz]
    ·rw [if_neg (by omega)]
   rw [hstep]
   refine ⟨fun h3=>⟨m,by omega,?_⟩,fun h3=>?_⟩
   ·rw [if_neg (by omega),hv (by omega),show i=w.length by omega,List.take_length]
   ·rw [if_pos (by omega)]
 | succ t ih=>
   intro i n v hi hn hv _
   obtain ⟨m,rfl⟩:∃ m,n=m+2:=⟨n-2,by omega⟩
   have hlt:=tw_lt (p:=digitP') (s.drop a) i (by rw [hw];omega)
   rw [hw] at hlt
   have hdv:=digit_val hlt.1
   have hwi:IntKind.wrap IntKind.i64 ((a:Int)+(i:Int))=((a+i:Nat):Int):=by rw [wrap64 (by omega) (by omega)];omega
   have e20:∀ v',lexR s (m+1) (.l1020 a i out v' x)=lexR s m (.l1 a ((i+1:Nat):Int) out v' x):=fun v'=>by
    show T82 Ops.std _ _ _ s _ some _=_
    unfold T82
    show lexR s m (.l1 a (IntKind.wrap IntKind.i64 ((i:Int)+1)) out v' x)=_
    rw [show IntKind.wrap IntKind.i64 ((i:Int)+1)=((i+1:Nat):Int) from qaf (by omega)]
   have hstep:lexR s (m+2) (.l1 a i out v x)=lexR s m (.l1 a ((i+1:Nat):Int) out (if (i:Int)<3 then 10*v+((((s.drop a).getD i 0).toNat:Int)-48) else v) x):=by
    show T82 Ops.std _ _ _ s _ some _=_
    unfold T82
    simp only [qad,qag,qaa,hwi,qab,mt]
    rw [if_pos (by omega),if_pos (by omega),qbc,ob_s,qcy,hlt.1,qdy]
    by_cases h3:(i:Int)<3
    ·have hb:0≤v∧v<1000:=by
      have:=qfm i (w.take i) (by rw [List.length_take];omega) fun b hb=>by
       have:=List.mem_of_mem_take hb
       rw [←hw] at this
       exact tw_all _ b this
      rw [←hv (by omega)] at this
      have hi3:i=0∨i=1∨i=2:=by omega
      rcases hi3 with rfl | rfl | rfl<;>simp at this<;>omega
     rw [if_pos h3,if_pos (by omega),if_pos h3,wrap8 (by omega) (by omega),wrap64 (n:=((((s.drop a).getD i 0).toNat:Int)-48)) (by omega) (by omega),wrap64 (n:=10*v) (by omega) (by omega),wrap64 (by omega) (by omega)]
     exact e20 _
    ·rw [if_neg h3,if_neg h3]
     exact e20 v
   rw [hstep]
   obtain ⟨g1,g2⟩:=ih (i+1) m (if (i:Int)<3 then 10*v+((((s.drop a).getD i 0).toNat:Int)-48) else v) (by omega) (by omega) (fun h3=>by
    rw [if_pos (by omega),hv (by omega),take_snoc w i (by omega),valW_snoc,hlt.2]) (fun _=>trivial)
   refine ⟨fun h3=>?_,g2⟩
   obtain ⟨n',h4,h5⟩:=g1 h3
   exact ⟨n',by omega,h5⟩
theorem lexR_words (hs:s.length≤60000) (a:Nat) (ha:a<s.length) (out:List Tok) (x:Int) (w:List UInt8) (hw:(s.drop a).takeWhile wordP=w):∀ (t i n:Nat),i+t=w.length→2*t+2<n→
  ∃ n',n'+2*t+2=n∧lexR s n (.l2 a i out x)=if 8<w.length then some (2,(a:Int),[]) else lexR s n' (.l1032 a w.length out 2 0 x):=by
 intro t
 have hwl:w.length≤(s.drop a).length:=by rw [←hw];exact (qes _).1
 rw [List.length_drop] at hwl
 induction t with
 | zero=>
   intro i n hi hn
   obtain ⟨m,rfl⟩:∃ m,n=m+2:=⟨n-2,by omega⟩
   refine ⟨m,by omega,?_⟩
   have e27:lexR s (m+1) (.l1027 a i out x)=if 8<w.length then some (2,(a:Int),[]) else lexR s m (.l1032 a w.length out 2 0 x):=by
    show T82 Ops.std _ _ _ s _ some _=_
    unfold T82
    simp only [qad,qaa,mt]
    rw [show i=w.length by omega]
    by_cases h8:8<w.length
    ·rw [if_pos (by omega),if_pos h8]
    ·rw [if_neg (by omega),if_neg h8]
   rw [←e27]
   show T82 Ops.std _ _ _ s _ some _=_
   unfold T82
   have hwi:IntKind.wrap IntKind.i64 ((a:Int)+(i:Int))=((a+i:Nat):Int):=by rw [wrap64 (by omega) (by omega)];omega
   simp only [qad,qag,qaa,hwi,qab,mt]
   by_cases h1:a+i<s.length
   ·rw [if_pos (by omega),if_pos (by omega),qcx,ob_s,qcy]
    have hend:=tw_end (p:=wordP) (s.drop a) (by rw [hw,List.length_drop];omega)
    rw [hw,show w.length=i by omega] at hend
    unfold wordP at hend
    simp only [Bool.or_eq_false_iff] at hend
    rw [hend.1,qdz,if_pos (by omega),qbc,ob_s,hend.2,qdz]
   ·rw [if_neg (by omega)]
 | succ t ih=>
   intro i n hi hn
   obtain ⟨m,rfl⟩:∃ m,n=m+2:=⟨n-2,by omega⟩
   have hlt:=tw_lt (p:=wordP) (s.drop a) i (by rw [hw];omega)
   obtain ⟨n',h4,h5⟩:=ih (i+1) m (by omega) (by omega)
   refine ⟨n',by omega,?_⟩
   rw [←h5]
   have e26:lexR s (m+1) (.l1026 a i out x)=lexR s m (.l2 a ((i+1:Nat):Int) out x):=by
    show T82 Ops.std _ _ _ s _ some _=_
    unfold T82
    show lexR s m (.l2 a (IntKind.wrap IntKind.i64 ((i:Int)+1)) out x)=_
    rw [show IntKind.wrap IntKind.i64 ((i:Int)+1)=((i+1:Nat):Int) from qaf (by omega)]
   rw [←e26]
   show T82 Ops.std _ _ _ s _ some _=_
   unfold T82
   have hwi:IntKind.wrap IntKind.i64 ((a:Int)+(i:Int))=((a+i:Nat):Int):=by rw [wrap64 (by omega) (by omega)];omega
   simp only [qad,qag,qaa,hwi,qab,mt]
   rw [if_pos (by omega),if_pos (by omega),qcx,ob_s,qcy]
   have hp:=hlt.1
   unfold wordP at hp
   cases hl:lowerP ((s.drop a).getD i 0) with
   | true=>rw [qdy]
   | false=>
     rw [hl,Bool.false_or] at hp
     rw [qdz,if_pos (by omega),qbc,ob_s,hp,qdy]
end
theorem qet {s:List UInt8} {k n:Int} {w:List UInt8} (h:tokS s=some (k,w,n)):0<w.length∧w.length≤s.length∧s.take w.length=w∧k≠0∧k≠5:=by
 cases s with
 | nil=>simp [tokS] at h
 | cons b r=>
   simp only [tokS] at h
   split at h
   ·rename_i hd
    split at h
    ·simp only [Option.some.injEq,Prod.mk.injEq] at h
     obtain ⟨rfl,rfl,rfl⟩:=h
     have h1:=qes (p:=digitP') (b::r)
     refine ⟨?_,h1.1,h1.2,by decide,by decide⟩
     rw [List.takeWhile_cons,hd];simp
    ·cases h
   ·split at h
    ·rename_i hd hl
     split at h
     ·simp only [Option.some.injEq,Prod.mk.injEq] at h
      obtain ⟨rfl,rfl,rfl⟩:=h
      have h1:=qes (p:=wordP) (b::r)
      refine ⟨?_,h1.1,h1.2,by decide,by decide⟩
      rw [List.takeWhile_cons,qdj hl];simp
     ·cases h
    ·split at h
     ·simp only [Option.some.injEq,Prod.mk.injEq] at h
      obtain ⟨rfl,rfl,rfl⟩:=h
      exact ⟨by simp,by simp,by simp,by decide,by decide⟩
     ·split at h
      ·cases h
      ·rename_i hne
       simp only [Option.some.injEq,Prod.mk.injEq] at h
       obtain ⟨rfl,rfl,rfl⟩:=h
       have h1:=signS_len (b::r)
       refine ⟨?_,h1.2.1,h1.2.2,by decide,by decide⟩
       cases hq:signS (b::r) with
       | nil=>exact absurd hq hne
       | cons=>simp
theorem lexR_go (s:List UInt8) (hs:s.length≤60000):∀ (f a n:Nat) (out:List Tok),s.length-a<f→a≤s.length→8*(s.length-a)+8≤n→out.length≤a→
  lexR s n (.l0 a out)=some (lexGo f (s.drop a) a out)
 | 0,a,n,out,hf,ha,hn,ho=>by omega
 | f+1,a,n,out,hf,ha,hn,ho=>by
   obtain ⟨m,rfl⟩:∃ m,n=m+1:=⟨n-1,by omega⟩
   have ih:=lexR_go s hs f
   by_cases hend:a=s.length
   ·rw [List.drop_eq_nil_of_le (by omega)]
    show T82 Ops.std _ _ _ s _ some _=_
    unfold T82
    simp only [qad,qal,qaa,mt,List.length_cons,List.length_nil]
    rw [if_neg (by omega),if_pos (by omega)]
    rfl
   ·have halt:a<s.length:=by omega
    have hd:s.drop a=s.getD a 0::s.drop (a+1):=qcw halt
    have hfin:∀ (k v:Int) (w:List UInt8) (n':Nat),tokS (s.drop a)=some (k,w,v)→8*(s.length-(a+w.length))+9≤n'→lexR s n' (.l1032 a w.length out k v a)=some (lexGo f (s.drop (a+w.length)) (a+w.length) (out++[(k,w,v,(a:Int))])):=fun k v w n' ht hn'=>by
     obtain ⟨h1,h2,h3,_,_⟩:=qet ht
     rw [List.length_drop] at h2
     obtain ⟨n2,rfl⟩:∃ n2,n'=n2+1:=⟨n'-1,by omega⟩
     rw [lexR_1032 s hs n2 a w.length (by omega) out (by omega),h3]
     exact ih (a+w.length) n2 _ (by omega) (by omega) (by omega) (by simp;omega)
    have hgo:∀ (k v:Int) (w:List UInt8),blankP (s.getD a 0)=false→tokS (s.drop a)=some (k,w,v)→lexGo (f+1) (s.drop a) a out=lexGo f (s.drop (a+w.length)) (a+w.length) (out++[(k,w,v,(a:Int))]):=fun k v w hb ht=>by
     have h2:=ht
     rw [hd] at ht ⊢
     simp only [lexGo,hb,ht,Bool.false_eq_true,if_false]
     rw [←hd,List.drop_drop]
    have hgo0:blankP (s.getD a 0)=false→tokS (s.drop a)=none→lexGo (f+1) (s.drop a) a out=(2,(a:Int),[]):=fun hb ht=>by
     rw [hd] at ht ⊢
     simp only [lexGo,hb,ht,Bool.false_eq_true,if_false]
    have hgob:blankP (s.getD a 0)=true→lexGo (f+1) (s.drop a) a out=lexGo f (s.drop (a+1)) (a+1) out:=fun hb=>by
     rw [hd]
     simp only [lexGo,hb,if_true]
    have hblank:blankP (s.getD a 0)=true→lexR s m (.l0 ((a+1:Nat):Int) out)=some (lexGo (f+1) (s.drop a) a out):=fun hb=>by
     rw [hgob hb]
     exact ih (a+1) m out (by omega) (by omega) (by omega) (by omega)
    have htk:tokS (s.drop a)=(if digitP' (s.getD a 0) then (if ((s.drop a).takeWhile digitP').length≤3 then some (1,(s.drop a).takeWhile digitP',valW ((s.drop a).takeWhile digitP')) else none)
      else if lowerP (s.getD a 0) then (if ((s.drop a).takeWhile wordP).length≤8 then some (2,(s.drop a).takeWhile wordP,0) else none)
      else if letterP (s.getD a 0) then some (3,[s.getD a 0],0)
      else if signS (s.drop a)=[] then none else some (4,signS (s.drop a),0)):=by rw [hd];rfl
    generalize hb0:s.getD a 0=b at *
    show T82 Ops.std _ _ _ s _ some _=_
    unfold T82
    have hw1:IntKind.wrap IntKind.i64 ((a:Int)+1)=((a+1:Nat):Int):=qaf (by omega)
    simp only [qad,qak,qag,qaa,qab,hb0,hw1]
    rw [if_pos (by omega),if_pos (by omega)]
    by_cases h32:b.toNat=32
    ·rw [if_pos (by omega)];exact hblank (by simp [blankP,h32])
    ·rw [if_neg (by omega)]
     by_cases h9:b.toNat=9
     ·rw [if_pos (by omega)];exact hblank (by simp [blankP,h9])
     ·rw [if_neg (by omega)]
      by_cases h10:b.toNat=10
      ·rw [if_pos (by omega)];exact hblank (by simp [blankP,h10])
      ·rw [if_neg (by omega),qbc,ob_s]
       have hnb:blankP b=false:=by simp [blankP,h32,h9,h10]
       cases hdg:digitP' b with
       | true=>
         rw [qdy]
         rw [hdg,if_pos rfl] at htk
         have hwl:=qes (p:=digitP') (s.drop a)
         rw [List.length_drop] at hwl
         obtain ⟨g1,g2⟩:=lexR_digits s hs a halt out (a:Int) _ rfl ((s.drop a).takeWhile digitP').length 0 m 0 (by omega) (by omega) (fun _=>by simp [valW]) (fun _=>trivial)
         by_cases h3:((s.drop a).takeWhile digitP').length≤3
         ·rw [if_pos h3] at htk
          obtain ⟨n',g3,g4⟩:=g1 h3
          have hp:=(qet htk).1
          refine Eq.trans g4 ?_
          clear g1 g2
          have hq:=hfin 1 _ _ n' htk
          generalize ((s.drop a).takeWhile digitP')=w at *
          rw [hq (by omega),hgo 1 _ _ hnb htk]
         ·rw [if_neg h3] at htk
          refine Eq.trans (g2 (by omega)) ?_
          rw [hgo0 hnb htk]
       | false=>
         rw [qdz,qcx,ob_s]
         rw [hdg] at htk
         simp only [Bool.false_eq_true,if_false] at htk
         cases hlw:lowerP b with
         | true=>
           rw [qdy]
           rw [hlw,if_pos rfl] at htk
           have hwl:=qes (p:=wordP) (s.drop a)
           rw [List.length_drop] at hwl
           obtain ⟨n',g3,g4⟩:=lexR_words s hs a halt out (a:Int) _ rfl ((s.drop a).takeWhile wordP).length 0 m (by omega) (by omega)
           refine Eq.trans g4 ?_
           by_cases h8:((s.drop a).takeWhile wordP).length≤8
           ·rw [if_pos h8] at htk
            have hp:=(qet htk).1
            have hq:=hfin 2 _ _ n' htk
            generalize ((s.drop a).takeWhile wordP)=w at *
            rw [if_neg (by omega),hq (by omega),hgo 2 _ _ hnb htk]
           ·rw [if_neg h8] at htk
            rw [if_pos (by omega),hgo0 hnb htk]
         | false=>
           rw [qdz]
           rw [hlw] at htk
           simp only [Bool.false_eq_true,if_false] at htk
           have h31:letterP b=true→lexR s m (.l1031 a out a)=some (lexGo (f+1) (s.drop a) a out):=fun hlt=>by
            rw [hlt,if_pos rfl] at htk
            obtain ⟨m2,rfl⟩:∃ m2,m=m2+1:=⟨m-1,by omega⟩
            show T82 Ops.std _ _ _ s _ some _=_
            unfold T82
            rw [hgo 3 _ _ hnb htk]
            exact hfin 3 0 [b] m2 htk (by simp;omega)
           by_cases g1:b.toNat=88
           ·rw [if_pos (by omega)];exact h31 (by simp [letterP,g1])
           ·rw [if_neg (by omega)]
            by_cases g2:b.toNat=70
            ·rw [if_pos (by omega)];exact h31 (by simp [letterP,g2])
            ·rw [if_neg (by omega)]
             by_cases g3:b.toNat=71
             ·rw [if_pos (by omega)];exact h31 (by simp [letterP,g3])
             ·rw [if_neg (by omega)]
              by_cases g4:b.toNat=85
              ·rw [if_pos (by omega)];exact h31 (by simp [letterP,g4])
              ·rw [if_neg (by omega)]
               by_cases g5:b.toNat=82
               ·rw [if_pos (by omega)];exact h31 (by simp [letterP,g5])
               ·rw [if_neg (by omega)]
                have hlt:letterP b=false:=by simp [letterP,g1,g2,g3,g4,g5]
                rw [hlt] at htk
                simp only [Bool.false_eq_true,if_false] at htk
                obtain ⟨m2,rfl⟩:∃ m2,m=m2+1:=⟨m-1,by omega⟩
                show T82 Ops.std _ _ _ s _ some _=_
                unfold T82
                simp only [qag,qak,qaa,qab,List.take_length,mt]
                rw [if_pos (by omega),sign_ref (s.drop a) (by rw [List.length_drop];omega),ob_s]
                by_cases hsg:signS (s.drop a)=[]
                ·rw [if_pos hsg] at htk
                 rw [if_pos (by rw [hsg];rfl),hgo0 hnb htk]
                ·rw [if_neg hsg] at htk
                 have hp:=(qet htk).1
                 rw [if_neg (by omega),hgo 4 _ _ hnb htk]
                 exact hfin 4 0 _ m2 htk (by omega)
theorem lex_ref (s:List UInt8):M82 s=some (lexS s):=by
 show T82 Ops.std M104 M103 M140 s (lexR s 1000000) some none=_
 unfold T82 lexS
 simp only [qad,qaa,mt]
 by_cases h:60000<s.length
 ·rw [if_pos (by omega),if_pos h]
 ·rw [if_neg (by omega),if_neg h]
  exact lexR_go s (by omega) (s.length+1) 0 1000000 [] (by omega) (by omega) (by omega) (by simp)
def tokOK (t:Tok):Prop:=(t.1=1→0≤t.2.2.1∧t.2.2.1≤999)∧(t.1=2→isWordP t.2.1=true)
theorem tokS_ok {s:List UInt8} {k n:Int} {w:List UInt8} (h:tokS s=some (k,w,n)) (x:Int):tokOK (k,w,n,x):=by
 cases s with
 | nil=>simp [tokS] at h
 | cons b r=>
   simp only [tokS] at h
   split at h
   ·rename_i hd
    split at h
    ·rename_i h3
     simp only [Option.some.injEq,Prod.mk.injEq] at h
     obtain ⟨rfl,rfl,rfl⟩:=h
     refine ⟨fun _=>?_,fun h=>(by cases h)⟩
     have:=qfm _ ((b::r).takeWhile digitP') rfl fun b hb=>tw_all _ b hb
     have hl:((b::r).takeWhile digitP').length=0∨((b::r).takeWhile digitP').length=1∨((b::r).takeWhile digitP').length=2∨((b::r).takeWhile digitP').length=3:=by omega
     rcases hl with hl | hl | hl | hl<;>rw [hl] at this<;>simp at this ⊢<;>omega
    ·cases h
   ·split at h
    ·rename_i hd hl
     split at h
     ·rename_i h8
      simp only [Option.some.injEq,Prod.mk.injEq] at h
      obtain ⟨rfl,rfl,rfl⟩:=h
      refine ⟨fun h=>(by cases h),fun _=>?_⟩
      rw [List.takeWhile_cons,qdj hl] at h8 ⊢
      simp only [if_true,List.length_cons] at h8 ⊢
      simp only [isWordP,hl,Bool.true_and,Bool.and_eq_true,List.all_eq_true,decide_eq_true_eq]
      exact ⟨fun b hb=>tw_all _ b hb,h8⟩
     ·cases h
    ·split at h
     ·simp only [Option.some.injEq,Prod.mk.injEq] at h
      obtain ⟨rfl,rfl,rfl⟩:=h
      exact ⟨fun h=>(by cases h),fun h=>(by cases h)⟩
     ·split at h
      ·cases h
      ·simp only [Option.some.injEq,Prod.mk.injEq] at h
       obtain ⟨rfl,rfl,rfl⟩:=h
       exact ⟨fun h=>(by cases h),fun h=>(by cases h)⟩
def toksOK (l:List Tok):Prop:=∃ (q:List Tok) (x:Int),l=q++[(5,[],0,x)]∧∀ t∈q,t.1≠5∧tokOK t
theorem lexGo_ok:∀ (f:Nat) (s:List UInt8) (a:Nat) (out:List Tok),(∀ t∈out,t.1≠5∧tokOK t)→∀ (e x:Int) (l:List Tok),lexGo f s a out=(e,x,l)→e=0→toksOK l∧l.length≤out.length+s.length+1
 | 0,s,a,out,ho,e,x,l,h,he=>by
   simp only [lexGo,Prod.mk.injEq] at h
   omega
 | f+1,[],a,out,ho,e,x,l,h,he=>by
   simp only [lexGo,Prod.mk.injEq] at h
   obtain ⟨_,_,rfl⟩:=h
   exact ⟨⟨out,a,rfl,ho⟩,by simp⟩
 | f+1,b::r,a,out,ho,e,x,l,h,he=>by
   simp only [lexGo] at h
   split at h
   ·have:=lexGo_ok f r (a+1) out ho e x l h he
    exact ⟨this.1,by simp;omega⟩
   ·split at h
    ·simp only [Prod.mk.injEq] at h
     omega
    ·rename_i k w n ht
     have h1:=qet ht
     have:=lexGo_ok f ((b::r).drop w.length) (a+w.length) (out++[(k,w,n,(a:Int))]) (fun t ht'=>by
      rcases List.mem_append.1 ht' with h2 | h2
      ·exact ho t h2
      ·simp at h2;subst h2;exact ⟨h1.2.2.2.2,tokS_ok ht _⟩) e x l h he
     refine ⟨this.1,?_⟩
     have h2:=this.2
     simp only [List.length_append,List.length_cons,List.length_nil,List.length_drop] at h2 ⊢
     omega
theorem lexS_ok {s:List UInt8} {x:Int} {l:List Tok} (h:lexS s=(0,x,l)):toksOK l∧l.length≤s.length+1∧s.length≤60000:=by
 unfold lexS at h
 split at h
 ·simp at h
 ·have:=lexGo_ok _ s 0 [] (by simp) 0 x l h rfl
  exact ⟨this.1,by simpa using this.2,by omega⟩
abbrev Trm:=Int×Int×List UInt8×List UInt8
def opn (k:Int):Int:=
 if k=1∨k=2∨k=3 then 0 else if k=4∨k=8∨k=11∨k=12 then 1 else if k=5∨k=6∨k=7∨k=9∨k=10 then 2 else -1
theorem opn_cases (k:Int):opn k=0∨opn k=1∨opn k=2∨opn k = -1:=by
 unfold opn
 split
 ·simp
 ·split
  ·simp
  ·split<;>simp
section
variable {X:Type} (E:List X→Bool)
def badP (p:Int×List X) (d:Int):Bool:=
 decide (opn p.1<0) || decide (d<opn p.1) || (decide (p.1=3) && !E p.2) || (!decide (p.1=3) && decide (0<p.2.length))
def rGo:List (Int×List X)→Int→Option Int
 | [],d=>some d
 | p::r,d=>if badP E p d then none else rGo r (d+1-opn p.1)
inductive Fm (X:Type) where
 | nul (p:Int×List X)
 | un (p:Int×List X) (a:Fm X)
 | bi (p:Int×List X) (a b:Fm X)
def Fm.flat:Fm X→List (Int×List X)
 | .nul p=>[p]
 | .un p a=>a.flat++[p]
 | .bi p a b=>a.flat++b.flat++[p]
def Fm.size:Fm X→Nat
 | .nul _=>1
 | .un _ a=>a.size+1
 | .bi _ a b=>a.size+b.size+1
def Fm.root:Fm X→Int×List X
 | .nul p=>p
 | .un p _=>p
 | .bi p _ _=>p
def Fm.wf:Fm X→Prop
 | .nul p=>opn p.1=0∧(p.1=3→E p.2=true)∧(p.1≠3→p.2=[])
 | .un p a=>opn p.1=1∧p.2=[]∧a.wf
 | .bi p a b=>opn p.1=2∧p.2=[]∧a.wf∧b.wf
theorem Fm.flat_len (t:Fm X):t.flat.length=t.size:=by
 induction t with
 | nul=>rfl
 | un p a ih=>simp [Fm.flat,Fm.size,ih]
 | bi p a b iha ihb=>simp [Fm.flat,Fm.size,iha,ihb];omega
theorem Fm.size_pos (t:Fm X):0<t.size:=by cases t<;>simp [Fm.size]
theorem ne3 {k n:Int} (h:opn k=n) (hn:n≠0):k≠3:=by
 rintro rfl
 exact hn (by rw [←h];rfl)
theorem rGo_flat (t:Fm X) (ht:t.wf E):∀ (r:List (Int×List X)) (d:Int),0≤d→rGo E (t.flat++r) d=rGo E r (d+1):=by
 induction t with
 | nul p=>
   intro r d hd
   obtain ⟨h1,h2,h3⟩:=ht
   have hb:badP E p d=false:=by
    unfold badP
    rw [h1]
    by_cases h:p.1=3
    ·simp [h,h2 h];omega
    ·simp [h,h3 h];omega
   simp only [Fm.flat,List.cons_append,List.nil_append,rGo,hb,h1]
   simp
 | un p a ih=>
   intro r d hd
   obtain ⟨h1,h2,h3⟩:=ht
   have hb:badP E p (d+1)=false:=by
    unfold badP
    rw [h1,h2]
    have:=ne3 h1 (by omega)
    simp [this];omega
   simp only [Fm.flat,List.append_assoc]
   rw [ih h3 _ d hd]
   simp only [List.cons_append,List.nil_append,rGo,hb,h1]
   simp
 | bi p a b iha ihb=>
   intro r d hd
   obtain ⟨h1,h2,h3,h4⟩:=ht
   have hb:badP E p (d+1+1)=false:=by
    unfold badP
    rw [h1,h2]
    have:=ne3 h1 (by omega)
    simp [this];omega
   simp only [Fm.flat,List.append_assoc]
   rw [iha h3 _ d hd,ihb h4 _ (d+1) (by omega)]
   simp only [List.cons_append,List.nil_append,rGo,hb,h1]
   simp;congr 1;omega
def rightF (f:List (Int×List X)):Bool:=(match rGo E f 0 with
 | some d=>decide (d=1)
 | none=>false) && decide (f.length≤60)
theorem qeu {t:Fm X} (ht:t.wf E) (hs:t.size≤60):rightF E t.flat=true:=by
 unfold rightF
 have:=rGo_flat E t ht [] 0 (by omega)
 rw [List.append_nil] at this
 rw [this]
 simp [rGo,Fm.flat_len,hs]
theorem flat_last (t:Fm X):∃ l,t.flat=l++[t.root]∧l.length+1=t.size:=by
 cases t with
 | nul p=>exact ⟨[],rfl,rfl⟩
 | un p a=>exact ⟨a.flat,rfl,by simp [Fm.flat_len,Fm.size]⟩
 | bi p a b=>exact ⟨a.flat++b.flat,rfl,by simp [Fm.flat_len,Fm.size]⟩
def Fm.kids:Fm X→Nat→List (List Int)
 | .nul _,_=>[[]]
 | .un _ a,b=>a.kids b++[[((b+a.size-1:Nat):Int)]]
 | .bi _ a c,b=>a.kids b++c.kids (b+a.size)++[[((b+a.size-1:Nat):Int),((b+a.size+c.size-1:Nat):Int)]]
theorem Fm.kids_len (t:Fm X):∀ b,(t.kids b).length=t.size:=by
 induction t with
 | nul=>intro b;rfl
 | un p a ih=>intro b;simp [Fm.kids,Fm.size,ih]
 | bi p a c iha ihc=>intro b;simp [Fm.kids,Fm.size,iha,ihc];omega
end
theorem opn_prog (k:Int):M96 k=some (opn k):=by
 show T96 Ops.std k some=_
 unfold T96 opn
 simp only [qak,qaa]
 (repeat' split)<;>first | rfl | (exfalso;omega)
theorem opn_ref (k:Int):M73 k=some (opn k):=by
 show T73 Ops.std k some=_
 unfold T73 opn
 simp only [qak,qaa]
 (repeat' split)<;>first | rfl | (exfalso;omega)
abbrev Prt:=Int×List Trm
def smallF (f:List Prt):Prop:=f.length<900000∧∀ p∈f,p.2.length<900000
theorem smallF.at {f:List Prt} (h:smallF f) {i:Nat} (hi:i<f.length):(f.getD i (Ty.dflt ty66)).2.length<900000:=by
 refine h.2 _ ?_
 rw [List.getD_eq_getElem?_getD,List.getElem?_eq_getElem hi]
 exact List.getElem_mem _
def fin60 (f:List Prt) (o:Option Int):Bool:=match o with
 | some d=>decide (d=1) && decide (f.length≤60)
 | none=>false
theorem qfn (E:List Trm→Bool) (f:List Prt):rightF E f=fin60 f (rGo E f 0):=by
 unfold rightF fin60
 cases rGo E f 0<;>rfl
theorem opn_le (k:Int):-1≤opn k∧opn k≤2:=by rcases opn_cases k with h | h | h | h<;>rw [h]<;>decide
section
variable (E:List Trm→Bool) (f:List Prt) (hf:smallF f)
theorem qb8 (hE:∀ p∈f,M156 p.2=some (E p.2)) (hf:smallF f):∀ (t i n:Nat) (d:Int),i+t=f.length→t<n→0≤d→d≤i→
  R95 M96 M156 f n (.l0 d (f.length:Nat) i)=some (fin60 f (rGo E (f.drop i) d))
 | t,i,0,d,hi,hn,h0,hd=>by omega
 | 0,i,n+1,d,hi,hn,h0,hd=>by
   show T95 Ops.std _ _ f _ some _=_
   unfold T95
   simp only [qad,qak,qas,qaa]
   rw [if_neg (by omega),List.drop_eq_nil_of_le (by omega)]
   simp only [rGo,fin60]
   by_cases h1:d=1
   ·rw [if_pos h1];simp [h1];omega
   ·rw [if_neg h1];simp [h1]
 | t+1,i,n+1,d,hi,hn,h0,hd=>by
   have hlt:i<f.length:=by omega
   have ih:=fun d=>qb8 hE hf t (i+1) n d (by omega) (by omega)
   have hl:=hf.1
   show T95 Ops.std _ _ f _ some _=_
   unfold T95
   have hs:=hf.at hlt
   have hmem:f.getD i (Ty.dflt ty66)∈f:=by
    rw [List.getD_eq_getElem?_getD,List.getElem?_eq_getElem hlt]
    exact List.getElem_mem _
   rw [qau (Ty.dflt ty66) hlt]
   simp only [qad,qak,qas,qag,qaa,qao,qab,rGo,badP]
   generalize f.getD i (Ty.dflt ty66)=p at hs hmem ⊢
   obtain ⟨hb1,hb2⟩:=opn_le p.1
   rw [if_pos (by omega),if_pos (by omega),opn_prog,ob_s]
   by_cases h1:opn p.1<0
   ·rw [if_pos h1];simp [h1,fin60]
   ·rw [if_neg h1]
    by_cases h2:d<opn p.1
    ·rw [if_pos h2];simp [h1,h2,fin60]
    ·rw [if_neg h2]
     have hw:IntKind.wrap IntKind.i64 (d+IntKind.wrap IntKind.i64 (1-opn p.1))=d+1-opn p.1:=by
      rw [wrap64 (n:=1-opn p.1) (by omega) (by omega),wrap64 (by omega) (by omega)];omega
     have hw2:IntKind.wrap IntKind.i64 ((i:Int)+1)=((i+1:Nat):Int):=qaf (by omega)
     rw [hw,hw2]
     have hgo:=ih (d+1-opn p.1) (by omega) (by omega)
     by_cases h3:p.1=3
     ·rw [if_pos h3,hE _ hmem,ob_s]
      cases he:E p.2 with
      | false=>simp [h1,h2,h3,he,fin60]
      | true=>
        simp only [Bool.not_true,cond_false]
        rw [if_neg (by simp [h3])]
        refine hgo.trans ?_
        have h1':=h1
        have h2':=h2
        rw [h3] at h1' h2'
        simp [h3,he,h1',h2']
     ·rw [if_neg h3,if_pos (by simp [h3])]
      by_cases h4:(0:Int)<(p.2.length:Int)
      ·rw [if_pos h4]
       have:0<p.2.length:=by omega
       simp [h1,h2,h3,this,fin60]
      ·rw [if_neg h4]
       have:¬ 0<p.2.length:=by omega
       refine hgo.trans ?_
       simp [h1,h2,h3,this]
theorem right_prog (hE:∀ p∈f,M156 p.2=some (E p.2)) (hf:smallF f):M95 f=some (rightF E f):=by
 show T95 Ops.std M96 M156 f (R95 M96 M156 f 1000000) some none=_
 unfold T95
 have:=qb8 E f hE hf f.length 0 1000000 0 (by omega) (by have:=hf.1;omega) (by omega) (by omega)
 rw [qfn]
 exact this
theorem qck (hE:∀ p∈f,M110 p.2=some (E p.2)) (hf:smallF f):∀ (t i n:Nat) (d:Int),i+t=f.length→t<n→0≤d→d≤i→
  R63 M73 M110 f n (.l0 d i)=some (fin60 f (rGo E (f.drop i) d))
 | t,i,0,d,hi,hn,h0,hd=>by omega
 | 0,i,n+1,d,hi,hn,h0,hd=>by
   show T63 Ops.std _ _ f _ some _=_
   unfold T63
   simp only [qad,qak,qas,qaa]
   rw [if_neg (by omega),List.drop_eq_nil_of_le (by omega)]
   simp only [rGo,fin60]
   by_cases h1:d=1
   ·rw [if_pos h1];simp [h1];omega
   ·rw [if_neg h1];simp [h1]
 | t+1,i,n+1,d,hi,hn,h0,hd=>by
   have hlt:i<f.length:=by omega
   have ih:=fun d=>qck hE hf t (i+1) n d (by omega) (by omega)
   have hl:=hf.1
   show T63 Ops.std _ _ f _ some _=_
   unfold T63
   have hs:=hf.at hlt
   have hmem:f.getD i (Ty.dflt ty66)∈f:=by
    rw [List.getD_eq_getElem?_getD,List.getElem?_eq_getElem hlt]
    exact List.getElem_mem _
   rw [qau (Ty.dflt ty66) hlt]
   simp only [qad,qak,qas,qag,qaa,qao,qab,rGo,badP]
   generalize f.getD i (Ty.dflt ty66)=p at hs hmem ⊢
   obtain ⟨hb1,hb2⟩:=opn_le p.1
   have hin:(0:Int)≤i∧(i:Int)<(f.length:Int):=by omega
   simp only [if_pos hin]
   rw [if_pos (by omega),opn_ref,ob_s]
   by_cases h1:opn p.1<0
   ·rw [if_pos h1];simp [h1,fin60]
   ·rw [if_neg h1]
    by_cases h2:d<opn p.1
    ·rw [if_pos h2];simp [h1,h2,fin60]
    ·rw [if_neg h2]
     have hw:IntKind.wrap IntKind.i64 (IntKind.wrap IntKind.i64 (d-opn p.1)+1)=d+1-opn p.1:=by
      rw [wrap64 (n:=d-opn p.1) (by omega) (by omega),wrap64 (by omega) (by omega)];omega
     have hw2:IntKind.wrap IntKind.i64 ((i:Int)+1)=((i+1:Nat):Int):=qaf (by omega)
     rw [hw,hw2]
     have hgo:=ih (d+1-opn p.1) (by omega) (by omega)
     by_cases h3:p.1=3
     ·rw [if_pos h3,hE _ hmem,ob_s]
      cases he:E p.2 with
      | false=>simp [h1,h2,h3,he,fin60]
      | true=>
        simp only [Bool.not_true,cond_false]
        rw [if_neg (by simp [h3])]
        refine hgo.trans ?_
        have h1':=h1
        have h2':=h2
        rw [h3] at h1' h2'
        simp [h3,he,h1',h2']
     ·rw [if_neg h3,if_pos (by simp [h3])]
      by_cases h4:(0:Int)<(p.2.length:Int)
      ·rw [if_pos h4]
       have:0<p.2.length:=by omega
       simp [h1,h2,h3,this,fin60]
      ·rw [if_neg h4]
       have:¬ 0<p.2.length:=by omega
       refine hgo.trans ?_
       simp [h1,h2,h3,this]
theorem right_ref (hE:∀ p∈f,M110 p.2=some (E p.2)) (hf:smallF f):M63 f=some (rightF E f):=by
 show T63 Ops.std M73 M110 f (R63 M73 M110 f 1000000) some none=_
 unfold T63
 have:=qck E f hE hf f.length 0 1000000 0 (by omega) (by have:=hf.1;omega) (by omega) (by omega)
 rw [qfn]
 exact this
end
def opE (k:Int):Int:=if k<1∨16<k then -1 else if k≤3 then 0 else if k≤5 then 1 else 2
theorem opE_prog (k:Int):M117 k=some (opE k):=by
 show T117 Ops.std k some=_
 unfold T117 opE
 simp only [qak,qas,qad,qaa]
 (repeat' split)<;>first | rfl | (exfalso;omega)
theorem opE_ref (k:Int):M161 k=some (opE k):=by
 show T161 Ops.std k some=_
 unfold T161 opE
 simp only [qak,qas,qad,qaa]
 (repeat' split)<;>first | rfl | (exfalso;omega)
def mayT (t:Trm):Bool:=
 if t.1=1 then decide (0≤t.2.1) && decide (t.2.1≤999) && (t.2.2.1 == []) && (t.2.2.2 == [])
 else if t.1=2 then decide (t.2.1=0) && isWordP t.2.2.1 && (t.2.2.2 == [])
 else if t.1=3 then decide (t.2.1=0) && isWordP t.2.2.1 && isWordP t.2.2.2
 else decide (0<opE t.1) && decide (t.2.1=0) && (t.2.2.1 == []) && (t.2.2.2 == [])
theorem may_prog (a b:Int) (c d:List UInt8):M183 a b c d=some (mayT (a,b,c,d)):=by
 show T183 Ops.std M185 M117 a b c d some=_
 unfold T183 mayT
 simp only [qak,qas,qad,qaa,isWord_prog,opE_prog,ob_s]
 by_cases h1:a=1
 ·simp only [h1,if_true]
  by_cases h2:0≤b<;>by_cases h3:b≤999<;>cases hc:(c == ([]:List UInt8))<;>simp [h2,h3,hc]
 ·simp only [h1,if_false]
  by_cases h2:a=2
  ·simp only [h2,if_true]
   by_cases h3:b=0<;>cases hc:isWordP c<;>simp [h3,hc]
  ·simp only [h2,if_false]
   by_cases h3:a=3
   ·simp only [h3,if_true]
    by_cases h4:b=0<;>cases hc:isWordP c<;>simp [h4,hc]
   ·simp only [h3,if_false]
    by_cases h4:0<opE a<;>by_cases h5:b=0<;>cases hc:(c == ([]:List UInt8))<;>simp [h4,h5,hc]
def eGo:List Trm→Int→Option Int
 | [],d=>some d
 | p::r,d=>if !mayT p || decide (d<opE p.1) then none else eGo r (d+1-opE p.1)
def fin30 (f:List Trm) (o:Option Int):Bool:=match o with
 | some d=>decide (d=1) && decide (f.length≤30)
 | none=>false
def rightE (e:List Trm):Bool:=fin30 e (eGo e 0)
theorem opE_le (k:Int):-1≤opE k∧opE k≤2:=by unfold opE;(repeat' split)<;>omega
theorem mayT_op {t:Trm} (h:mayT t=true):0≤opE t.1:=by
 unfold mayT at h
 unfold opE at *
 (repeat' split at h)<;>(repeat' split)<;>simp_all<;>omega
theorem qb0 (f:List Trm) (hf:f.length<900000):∀ (t i n:Nat) (d:Int),i+t=f.length→t<n→0≤d→d≤i→
  R156 M117 M183 f n (.l0 d (f.length:Nat) i)=some (fin30 f (eGo (f.drop i) d))
 | t,i,0,d,hi,hn,h0,hd=>by omega
 | 0,i,n+1,d,hi,hn,h0,hd=>by
   show T156 Ops.std _ _ f _ some _=_
   unfold T156
   simp only [qad,qak,qas,qaa]
   rw [if_neg (by omega),List.drop_eq_nil_of_le (by omega)]
   simp only [eGo,fin30]
   by_cases h1:d=1
   ·rw [if_pos h1];simp [h1];omega
   ·rw [if_neg h1];simp [h1]
 | t+1,i,n+1,d,hi,hn,h0,hd=>by
   have hlt:i<f.length:=by omega
   have ih:=fun d=>qb0 f hf t (i+1) n d (by omega) (by omega)
   show T156 Ops.std _ _ f _ some _=_
   unfold T156
   rw [qau (Ty.dflt ty150) hlt]
   simp only [qad,qak,qas,qag,qaa,qao,qab,eGo]
   generalize f.getD i (Ty.dflt ty150)=p
   obtain ⟨hb1,hb2⟩:=opE_le p.1
   rw [if_pos (by omega),if_pos (by omega),opE_prog,ob_s,may_prog,ob_s]
   have hp:mayT (p.1,p.2.1,p.2.2.1,p.2.2.2)=mayT p:=rfl
   rw [hp]
   cases hm:mayT p with
   | false=>simp [fin30]
   | true=>
     have:=mayT_op hm
     simp only [Bool.not_true,cond_false,Bool.false_or]
     by_cases h2:d<opE p.1
     ·rw [if_pos h2];simp [h2,fin30]
     ·rw [if_neg h2]
      have hw:IntKind.wrap IntKind.i64 (d+IntKind.wrap IntKind.i64 (1-opE p.1))=d+1-opE p.1:=by
       rw [wrap64 (n:=1-opE p.1) (by omega) (by omega),wrap64 (by omega) (by omega)];omega
      rw [hw,show IntKind.wrap IntKind.i64 ((i:Int)+1)=((i+1:Nat):Int) from qaf (by omega),ih _ (by omega) (by omega)]
      simp [h2]
theorem qev (f:List Trm) (hf:f.length<900000):M156 f=some (rightE f):=by
 show T156 Ops.std M117 M183 f (R156 M117 M183 f 1000000) some none=_
 unfold T156
 exact qb0 f hf f.length 0 1000000 0 (by omega) (by omega) (by omega) (by omega)
noncomputable abbrev rightER (f:List Trm):=R110 M161 M58 f
def smallE (f:List Trm):Prop:=f.length<900000∧∀ p∈f,p.2.2.1.length<900000∧p.2.2.2.length<900000
theorem smallE.at {f:List Trm} (h:smallE f) {i:Nat} (hi:i<f.length):(f.getD i (Ty.dflt ty150)).2.2.1.length<900000∧(f.getD i (Ty.dflt ty150)).2.2.2.length<900000:=by
 refine h.2 _ ?_
 rw [List.getD_eq_getElem?_getD,List.getElem?_eq_getElem hi]
 exact List.getElem_mem _
theorem qb9 (f:List Trm) (hf:smallE f):∀ (t i n:Nat) (d:Int),i+t=f.length→3*t<n→0≤d→d≤i→
  rightER f n (.l0 d i)=some (fin30 f (eGo (f.drop i) d))
 | t,i,0,d,hi,hn,h0,hd=>by omega
 | 0,i,n+1,d,hi,hn,h0,hd=>by
   show T110 Ops.std _ _ f _ some _=_
   unfold T110
   simp only [qad,qak,qas,qaa]
   rw [if_neg (by omega),List.drop_eq_nil_of_le (by omega)]
   simp only [eGo,fin30]
   by_cases h1:d=1
   ·rw [if_pos h1];simp [h1];omega
   ·rw [if_neg h1];simp [h1]
 | t+1,i,n+1,d,hi,hn,h0,hd=>by
   have hlt:i<f.length:=by omega
   obtain ⟨m,rfl⟩:∃ m,n=m+2:=⟨n-2,by omega⟩
   have ih:=fun d=>qb9 f hf t (i+1) m d (by omega) (by omega)
   have hl:=hf.1
   have hs:=hf.at hlt
   have e18:∀ a:Int,-1≤a→a≤2→rightER f (m+1) (.l1018 d i a)=rightER f m (.l0 (d+1-a) ((i+1:Nat):Int)):=fun a ha1 ha2=>by
    show T110 Ops.std _ _ f _ some _=_
    unfold T110
    show rightER f m (.l0 (IntKind.wrap IntKind.i64 (IntKind.wrap IntKind.i64 (d-a)+1)) (IntKind.wrap IntKind.i64 ((i:Int)+1)))=_
    rw [wrap64 (n:=d-a) (by omega) (by omega),wrap64 (n:=d-a+1) (by omega) (by omega),show IntKind.wrap IntKind.i64 ((i:Int)+1)=((i+1:Nat):Int) from qaf (by omega)]
    congr 2;omega
   show T110 Ops.std _ _ f _ some _=_
   unfold T110
   rw [qau (Ty.dflt ty150) hlt]
   simp only [qad,qak,qas,qag,qaa,qao,qab,eGo]
   generalize f.getD i (Ty.dflt ty150)=p at hs ⊢
   obtain ⟨hb1,hb2⟩:=opE_le p.1
   rw [if_pos (by omega),if_pos (by omega),opE_ref,ob_s]
   have e16:∀ (w2:Int) (w3 w4:List UInt8),(opE p.1<0∨¬ (w2=p.2.1∧w3=p.2.2.1∧w4=p.2.2.2)∨p.2.1<0∨999<p.2.1∨(p.1=2∧isWordP p.2.2.1=false)∨(p.1=3∧(isWordP p.2.2.1 && isWordP p.2.2.2)=false)↔mayT p=false)→
     rightER f (m+2) (.l1016 d i (opE p.1) p.1 p.2.1 p.2.2.1 p.2.2.2 p.1 w2 w3 w4)=some (fin30 f (if !mayT p || decide (d<opE p.1) then none else eGo (f.drop (i+1)) (d+1-opE p.1))):=fun w2 w3 w4 hw=>by
    show T110 Ops.std _ _ f _ some _=_
    unfold T110
    simp only [qad,qak,qas,qag,qaa,qa0 _ hs.1,qa0 _ hs.2,ob_s]
    have g18:=e18 (opE p.1) hb1 hb2
    cases hm:mayT p with
    | false=>
      have hbad:=hw.2 hm
      simp only [Bool.not_false,Bool.true_or,if_true,fin30]
      by_cases h1:opE p.1<0
      ·rw [if_pos h1]
      ·rw [if_neg h1]
       by_cases h2:d<opE p.1
       ·rw [if_pos h2]
       ·rw [if_neg h2]
        by_cases h3:w2=p.2.1∧w3=p.2.2.1∧w4=p.2.2.2
        ·obtain ⟨rfl,rfl,rfl⟩:=h3
         simp only [decide_true,beq_self_eq_true,Bool.and_self,Bool.not_true,cond_false]
         by_cases h4:p.2.1<0
         ·rw [if_pos h4]
         ·rw [if_neg h4]
          by_cases h5:999<p.2.1
          ·rw [if_pos h5]
          ·rw [if_neg h5]
           have h6:(p.1=2∧isWordP p.2.2.1=false)∨(p.1=3∧(isWordP p.2.2.1 && isWordP p.2.2.2)=false):=by
            rcases hbad with h | h | h | h | h | h
            ·exact absurd h h1
            ·exact absurd ⟨rfl,rfl,rfl⟩ h
            ·exact absurd h h4
            ·exact absurd h h5
            ·exact .inl h
            ·exact .inr h
           rcases h6 with ⟨h6,h7⟩ | ⟨h6,h7⟩
           ·rw [if_pos h6,h7];rfl
           ·rw [if_neg (by omega),if_pos h6]
            cases ha:isWordP p.2.2.1 with
            | false=>rfl
            | true=>
              rw [ha] at h7
              simp only [Bool.true_and] at h7
              simp only [Bool.not_true,cond_false,h7,Bool.not_false,cond_true]
              rw [if_pos h6]
        ·have:(!(decide True && (decide (p.2.1=w2) && (p.2.2.1 == w3 && (p.2.2.2 == w4 && true)))))=true:=by
          rw [Bool.not_eq_true',Bool.eq_false_iff]
          intro hx
          simp only [Bool.and_eq_true,decide_eq_true_eq,beq_iff_eq] at hx
          exact h3 ⟨hx.2.1.symm,hx.2.2.1.symm,hx.2.2.2.1.symm⟩
         rw [this];rfl
    | true=>
      have hgood:¬ (opE p.1<0∨¬ (w2=p.2.1∧w3=p.2.2.1∧w4=p.2.2.2)∨p.2.1<0∨999<p.2.1∨(p.1=2∧isWordP p.2.2.1=false)∨(p.1=3∧(isWordP p.2.2.1 && isWordP p.2.2.2)=false)):=fun h=>by
       have:=hw.1 h;rw [hm] at this;cases this
      simp only [not_or,Classical.not_not] at hgood
      obtain ⟨h1,⟨rfl,rfl,rfl⟩,h4,h5,h6,h7⟩:=hgood
      simp only [Bool.not_true,Bool.false_or,decide_true,beq_self_eq_true,Bool.and_self,cond_false]
      rw [if_neg h1]
      by_cases h2:d<opE p.1
      ·rw [if_pos h2];simp [h2,fin30]
      ·rw [if_neg h2,if_neg h4,if_neg h5]
       have hgo:=g18.trans (ih (d+1-opE p.1) (by omega) (by omega))
       have hres:(if decide (d<opE p.1)=true then none else eGo (f.drop (i+1)) (d+1-opE p.1))=eGo (f.drop (i+1)) (d+1-opE p.1):=by simp [h2]
       rw [hres]
       by_cases h8:p.1=2
       ·have ha:isWordP p.2.2.1=true:=by
         cases ha:isWordP p.2.2.1 with
         | true=>rfl
         | false=>exact absurd ⟨h8,ha⟩ h6
        rw [if_pos h8,ha]
        simp only [Bool.not_true,cond_false]
        rw [if_neg (by omega)]
        exact hgo
       ·rw [if_neg h8]
        by_cases h9:p.1=3
        ·have hab:(isWordP p.2.2.1 && isWordP p.2.2.2)=true:=by
          cases hab:(isWordP p.2.2.1 && isWordP p.2.2.2) with
          | true=>rfl
          | false=>exact absurd ⟨h9,hab⟩ h7
         simp only [Bool.and_eq_true] at hab
         rw [if_pos h9,hab.1]
         simp only [Bool.not_true,cond_false]
         rw [if_pos h9,hab.2]
         simp only [Bool.not_true,cond_false]
         exact hgo
        ·rw [if_neg h9,if_neg h9]
         exact hgo
   by_cases h1:p.1=1
   ·rw [if_pos h1]
    refine e16 p.2.1 [] [] ?_
    have hop:opE p.1=0:=by rw [h1];rfl
    have hmt:mayT p=(decide (0≤p.2.1) && decide (p.2.1≤999) && (p.2.2.1 == []) && (p.2.2.2 == [])):=by unfold mayT;rw [if_pos h1]
    rw [hmt]
    simp only [Bool.and_eq_false_iff,decide_eq_false_iff_not,beq_eq_false_iff_ne]
    constructor
    ·intro h
     rcases h with h | h | h | h | h | h
     ·omega
     ·by_cases h2:p.2.2.1=[]
      ·exact .inr fun h3=>h ⟨trivial,h2.symm,h3.symm⟩
      ·exact .inl (.inr h2)
     ·exact .inl (.inl (.inl (by omega)))
     ·exact .inl (.inl (.inr (by omega)))
     ·omega
     ·omega
    ·intro h
     rcases h with ((h | h) | h) | h
     ·exact .inr (.inr (.inl (by omega)))
     ·exact .inr (.inr (.inr (.inl (by omega))))
     ·exact .inr (.inl fun h2=>h h2.2.1.symm)
     ·exact .inr (.inl fun h2=>h h2.2.2.symm)
   ·rw [if_neg h1]
    by_cases h2:p.1=2
    ·rw [if_pos h2]
     refine e16 0 p.2.2.1 [] ?_
     have hop:opE p.1=0:=by rw [h2];rfl
     have hmt:mayT p=(decide (p.2.1=0) && isWordP p.2.2.1 && (p.2.2.2 == [])):=by unfold mayT;rw [if_neg h1,if_pos h2]
     rw [hmt]
     simp only [Bool.and_eq_false_iff,decide_eq_false_iff_not,beq_eq_false_iff_ne]
     constructor
     ·intro h
      rcases h with h | h | h | h | h | h
      ·omega
      ·by_cases h3:p.2.1=0
       ·exact .inr fun h4=>h ⟨h3.symm,trivial,h4.symm⟩
       ·exact .inl (.inl h3)
      ·exact .inl (.inl (by omega))
      ·exact .inl (.inl (by omega))
      ·exact .inl (.inr h.2)
      ·omega
     ·intro h
      rcases h with (h | h) | h
      ·exact .inr (.inl fun h3=>h h3.1.symm)
      ·exact .inr (.inr (.inr (.inr (.inl ⟨h2,h⟩))))
      ·exact .inr (.inl fun h3=>h h3.2.2.symm)
    ·rw [if_neg h2]
     by_cases h3:p.1=3
     ·rw [if_pos h3]
      refine e16 0 p.2.2.1 p.2.2.2 ?_
      have hop:opE p.1=0:=by rw [h3];rfl
      have hmt:mayT p=(decide (p.2.1=0) && isWordP p.2.2.1 && isWordP p.2.2.2):=by unfold mayT;rw [if_neg h1,if_neg h2,if_pos h3]
      rw [hmt]
      simp only [Bool.and_eq_false_iff,decide_eq_false_iff_not]
      constructor
      ·intro h
       rcases h with h | h | h | h | h | h
       ·omega
       ·by_cases h4:p.2.1=0
        ·exact absurd ⟨h4.symm,trivial,trivial⟩ h
        ·exact .inl (.inl h4)
       ·exact .inl (.inl (by omega))
       ·exact .inl (.inl (by omega))
       ·omega
       ·rcases h.2 with h | h
        ·exact .inl (.inr h)
        ·exact .inr h
      ·intro h
       rcases h with (h | h) | h
       ·exact .inr (.inl fun h4=>h h4.1.symm)
       ·exact .inr (.inr (.inr (.inr (.inr ⟨h3,.inl h⟩))))
       ·exact .inr (.inr (.inr (.inr (.inr ⟨h3,.inr h⟩))))
     ·rw [if_neg h3]
      refine e16 0 [] [] ?_
      have hmt:mayT p=(decide (0<opE p.1) && decide (p.2.1=0) && (p.2.2.1 == []) && (p.2.2.2 == [])):=by unfold mayT;rw [if_neg h1,if_neg h2,if_neg h3]
      rw [hmt]
      simp only [Bool.and_eq_false_iff,decide_eq_false_iff_not,beq_eq_false_iff_ne]
      constructor
      ·intro h
       rcases h with h | h | h | h | h | h
       ·exact .inl (.inl (.inl (by omega)))
       ·by_cases h4:p.2.1=0
        ·by_cases h5:p.2.2.1=[]
         ·exact .inr fun h6=>h ⟨h4.symm,h5.symm,h6.symm⟩
         ·exact .inl (.inr h5)
        ·exact .inl (.inl (.inr h4))
       ·exact .inl (.inl (.inr (by omega)))
       ·exact .inl (.inl (.inr (by omega)))
       ·exact absurd h.1 (by omega)
       ·exact absurd h.1 (by omega)
      ·intro h
       rcases h with ((h | h) | h) | h
       ·refine .inl ?_
        unfold opE at h ⊢
        (repeat' split at h)<;>(repeat' split)<;>omega
       ·exact .inr (.inl fun h4=>h h4.1.symm)
       ·exact .inr (.inl fun h4=>h h4.2.1.symm)
       ·exact .inr (.inl fun h4=>h h4.2.2.symm)
theorem qfo (f:List Trm) (hf:smallE f) (h3:f.length<300000):M110 f=some (rightE f):=by
 show T110 Ops.std M161 M58 f (rightER f 1000000) some none=_
 unfold T110
 exact qb9 f hf f.length 0 1000000 0 (by omega) (by omega) (by omega) (by omega)
theorem toks_len {l:List Tok} (h:toksOK l):0<l.length:=by
 obtain ⟨q,x,rfl,_⟩:=h;simp
theorem toks_at {l:List Tok} (h:toksOK l) {i:Nat} (hi:i<l.length) (d:Tok):(i+1<l.length∨(l.getD i d).1=5)∧tokOK (l.getD i d)∧((l.getD i d).1=5→i+1=l.length):=by
 obtain ⟨q,x,rfl,hq⟩:=h
 simp only [List.length_append,List.length_cons,List.length_nil] at hi ⊢
 by_cases hlt:i<q.length
 ·have hg:(q++[(5,[],0,x)]).getD i d=q[i]:=by
   rw [List.getD_eq_getElem?_getD,List.getElem?_append_left hlt,List.getElem?_eq_getElem hlt];rfl
  rw [hg]
  have:=hq _ (List.getElem_mem hlt)
  exact ⟨.inl (by omega),this.2,fun h=>absurd h this.1⟩
 ·have hi':i=q.length:=by omega
  subst hi'
  rw [qbg]
  exact ⟨.inr rfl,⟨fun h=>(by cases h),fun h=>(by cases h)⟩,fun _=>rfl⟩
theorem qbm {l:List Tok} (h:toksOK l) {i:Nat} (hi:i<l.length) (d:Tok) (hk:(l.getD i d).1≠5):i+1<l.length:=by
 rcases (toks_at h hi d).1 with h1 | h1
 ·exact h1
 ·exact absurd h1 hk
def goodE (e:List Trm):Prop:=∀ (r:List Trm) (d:Int),0≤d→eGo (e++r) d=eGo r (d+1)
theorem goodE.nul {t:Trm} (h:mayT t=true) (ho:opE t.1=0):goodE [t]:=fun r d hd=>by
 simp only [List.cons_append,List.nil_append,eGo,h,ho]
 rw [if_neg (by simp;omega)]
 congr 1;omega
theorem goodE.un {e:List Trm} {t:Trm} (he:goodE e) (h:mayT t=true) (ho:opE t.1=1):goodE (e++[t]):=fun r d hd=>by
 rw [List.append_assoc,he _ d hd]
 simp only [List.cons_append,List.nil_append,eGo,h,ho]
 rw [if_neg (by simp;omega)]
 congr 1;omega
theorem goodE.bi {e e2:List Trm} {t:Trm} (he:goodE e) (he2:goodE e2) (h:mayT t=true) (ho:opE t.1=2):goodE (e++e2++[t]):=fun r d hd=>by
 rw [List.append_assoc,List.append_assoc,he _ d hd,he2 _ (d+1) (by omega)]
 simp only [List.cons_append,List.nil_append,eGo,h,ho]
 rw [if_neg (by simp;omega)]
 congr 1;omega
theorem goodE.right {e:List Trm} (h:goodE e) (hl:e.length≤30):rightE e=true:=by
 have:=h [] 0 (by omega)
 rw [List.append_nil] at this
 unfold rightE
 rw [this]
 simp [eGo,fin30,hl]
theorem may_op {k:Int} (h:4≤k) (h2:k≤16):mayT (k,0,[],[])=true:=by
 have:0<opE k:=by unfold opE;(repeat' split)<;>omega
 unfold mayT
 rw [if_neg (by show ¬ k=1;omega),if_neg (by show ¬ k=2;omega),if_neg (by show ¬ k=3;omega)]
 simp [this]
abbrev RS:=List Tok×Int×Int×List Trm
def Rd (l:List Tok) (a:Nat) (out:List Trm) (o:Option RS):Prop:=
 ∃ (a':Nat) (bad:Int) (out':List Trm),o=some (l,(a':Int),bad,out')∧a≤a'∧a'<l.length∧out'.length≤out.length+(a'-a)∧
   ((bad = -1∧a<a'∧∃ e,goodE e∧out'=out++e)∨(0≤bad∧bad<l.length))
theorem qcz (k:Int):∃ v,M178 k=some v:=by
 show ∃ v,T178 Ops.std k some=some v
 unfold T178
 simp only [qak,qaa]
 repeat' (first | exact ⟨_,rfl⟩ | apply ite_some)
theorem qew (k:Int) (w:List UInt8) (n x lv:Int):∀ (t j m:Nat),j+t=17→t<m→6≤j→
  ∃ op:Int,R191 M178 k w n x lv m (.l0 j)=some op∧(op=0∨(6≤op∧op≤16))
 | t,j,0,hj,hm,h6=>by omega
 | 0,j,m+1,hj,hm,h6=>by
   refine ⟨0,?_,.inl rfl⟩
   show T191 Ops.std _ k w n x lv _ some _=_
   unfold T191
   simp only [qas,qaa]
   rw [if_neg (by omega)]
 | t+1,j,m+1,hj,hm,h6=>by
   have ih:=qew k w n x lv t (j+1) m (by omega) (by omega) (by omega)
   show ∃ op:Int,T191 Ops.std _ k w n x lv _ some _=some op∧_
   unfold T191
   have hw:IntKind.wrap IntKind.i64 ((j:Int)+1)=((j+1:Nat):Int):=qaf (by omega)
   simp only [qas,qag,qak,qaa,hw]
   rw [if_pos (by omega),if_pos (by omega)]
   obtain ⟨v,hv⟩:=qcz (j:Int)
   rw [hv,ob_s]
   cases ((([[],[],[],[],[],[],[42],[43],[45],[60],[60,61],[62],[62,61],[61,61],[33,61],[38,38],[124,124]]:List (List UInt8)).getD (Int.toNat (j:Int)) []) == w) with
   | false=>exact ih
   | true=>
     simp only [cond_true]
     by_cases hv2:v=lv
     ·rw [if_pos hv2];exact ⟨_,rfl,.inr (by omega)⟩
     ·rw [if_neg hv2];exact ih
theorem binary_ok (k:Int) (w:List UInt8) (n x lv:Int):∃ op:Int,M191 k w n x lv=some op∧(op=0∨(6≤op∧op≤16∧k=4)):=by
 show ∃ op:Int,T191 Ops.std M178 k w n x lv (R191 M178 k w n x lv 1000000) some none=some op∧_
 unfold T191
 simp only [qak,qao,qaa]
 by_cases hk:k=4
 ·rw [if_neg (fun h=>h hk)]
  obtain ⟨op,h1,h2⟩:=qew k w n x lv 11 6 1000000 (by omega) (by omega) (by omega)
  refine ⟨op,h1,?_⟩
  rcases h2 with h2 | h2
  ·exact .inl h2
  ·exact .inr ⟨h2.1,h2.2,hk⟩
 ·rw [if_pos hk];exact ⟨0,rfl,.inl rfl⟩
theorem is_ok (w:List UInt8) (l:List Tok) (a:Nat) (ha:a<l.length) (bad:Int) (out:List Trm):∃ b:Bool,M193 w l a bad out=some (b,l,(a:Int),bad,out)∧(b=true→(l.getD a (Ty.dflt ty130)).1=4):=by
 show ∃ b:Bool,T193 Ops.std w l a bad out some=_∧_
 unfold T193
 simp only [qag,qak,qaa,qab]
 rw [if_pos (by omega)]
 by_cases h:(l.getD a (Ty.dflt ty130)).1=4
 ·rw [if_pos h,if_pos (by omega)];exact ⟨_,rfl,fun _=>h⟩
 ·rw [if_neg h];exact ⟨false,rfl,fun h=>(by cases h)⟩
theorem fail_ok (l:List Tok) (a:Nat) (bad:Int) (out:List Trm):∃ b:Int,M194 l a bad out=some (l,(a:Int),b,out)∧(bad = -1→b=a):=by
 show ∃ b:Int,T194 Ops.std l a bad out some=_∧_
 unfold T194
 simp only [qad,qaa]
 by_cases h:bad<0
 ·rw [if_pos h];exact ⟨_,rfl,fun _=>rfl⟩
 ·rw [if_neg h];exact ⟨_,rfl,fun h2=>(by omega)⟩
section
variable {l:List Tok} (hl:toksOK l)
noncomputable abbrev lvR (d:Nat):=R186 (Rec186 d).2 (Rec186 d).1 M191
noncomputable abbrev unR (d:Nat):=R190 M193 (Rec186 d).2 M194 (Rec186 d).1
theorem qfp (hl:toksOK l) (hll:l.length<100000) (d:Nat) (n:Nat) (hn:n≤5) (p1:List Tok) (p2 p3:Int) (p4:List Trm) (a0:Nat) (out0:List Trm)
  (hsub:∀ (a:Nat) (out:List Trm),a0≤a→a<l.length→out.length+(l.length-a)<200000→Rd l a out ((Rec186 d).1 ((n+1:Nat):Int) l a (-1) out)) :
  ∀ (t a m:Nat) (bad:Int) (out:List Trm),l.length-a≤t→t<m→a0≤a→a<l.length→out.length+(l.length-a)<200000→out.length≤out0.length+(a-a0)→((bad = -1∧a0<a∧∃ e,goodE e∧out=out0++e)∨(0≤bad∧bad<l.length))→
    Rd l a0 out0 (lvR d n p1 p2 p3 p4 m (.l0 l a bad out))
 | t,a,0,bad,out,ht,hm,ha0,ha,ho,hol,hb=>by omega
 | 0,a,m+1,bad,out,ht,hm,ha0,ha,ho,hol,hb=>by omega
 | t+1,a,m+1,bad,out,ht,hm,ha0,ha,ho,hol,hb=>by
   show Rd l a0 out0 (T186 Ops.std _ _ _ n p1 p2 p3 p4 _ some _)
   unfold T186
   simp only [qad,qag,qak,qal,qaa,qab,mt,List.length_cons,List.length_nil]
   rcases hb with ⟨rfl,haa,e,he,rfl⟩ | ⟨h1,h2⟩
   ·rw [if_pos (by omega),if_pos (by omega)]
    obtain ⟨op,hop,hop2⟩:=binary_ok (l.getD a (Ty.dflt ty130)).1 (l.getD a (Ty.dflt ty130)).2.1 (l.getD a (Ty.dflt ty130)).2.2.1 (l.getD a (Ty.dflt ty130)).2.2.2 n
    rw [hop,ob_s]
    by_cases h0:op=0
    ·rw [if_pos h0]
     exact ⟨a,-1,_,rfl,ha0,ha,hol,.inl ⟨rfl,haa,e,he,rfl⟩⟩
    ·rw [if_neg h0]
     obtain ⟨g1,g2,g3⟩:6≤op∧op≤16∧(l.getD a (Ty.dflt ty130)).1=4:=by
      rcases hop2 with h | h
      ·exact absurd h h0
      ·exact h
     have hnext:=qbm hl ha (Ty.dflt ty130) (by rw [g3];decide)
     have hw:IntKind.wrap IntKind.i64 ((n:Int)+1)=((n+1:Nat):Int):=qaf (by omega)
     have hw2:IntKind.wrap IntKind.i64 ((a:Int)+1)=((a+1:Nat):Int):=by
      simp only [List.length_append] at ho
      exact qaf (by omega)
     rw [hw,hw2]
     obtain ⟨a2,bad2,out2,f1,f2,f3,f4,f5⟩:=hsub (a+1) (out0++e) (by omega) (by omega) (by omega)
     rw [f1,ob_s]
     dsimp only
     simp only [List.length_append] at ho hol f4
     rw [if_pos (by omega)]
     have hgood:(bad2 = -1∧a0<a2∧∃ e',goodE e'∧out2++[(op,0,[],[])]=out0++e')∨(0≤bad2∧bad2<l.length):=by
      rcases f5 with ⟨rfl,h3,e2,he2,rfl⟩ | h
      ·refine .inl ⟨rfl,by omega,e++e2++[(op,0,[],[])],he.bi he2 (may_op (by omega) (by omega)) ?_,by simp⟩
       show opE op=2
       unfold opE;(repeat' split)<;>omega
      ·exact .inr h
     by_cases h3:(n:Int)=3
     ·rw [if_pos h3]
      exact ⟨a2,bad2,_,rfl,by omega,f3,by simp;omega,hgood⟩
     ·rw [if_neg h3]
      exact qfp hl hll d n hn p1 p2 p3 p4 a0 out0 hsub t a2 m bad2 _ (by omega) (by omega) (by omega) f3 (by simp;omega) (by simp;omega) hgood
   ·rw [if_neg (by omega)]
    exact ⟨a,bad,out,rfl,ha0,ha,hol,.inr ⟨h1,h2⟩⟩
abbrev UnOK (l:List Tok) (d:Nat):Prop:=∀ (a:Nat) (out:List Trm),8*(l.length-a)<d→a<l.length→out.length+(l.length-a)<200000→Rd l a out ((Rec186 d).2 l a (-1) out)
abbrev LvOK (l:List Tok) (d:Nat):Prop:=∀ (n a:Nat) (out:List Trm),1≤n→n≤6→8*(l.length-a)+(7-n)<d→a<l.length→out.length+(l.length-a)<200000→Rd l a out ((Rec186 d).1 (n:Nat) l a (-1) out)
theorem qdk (hl:toksOK l) (hll:l.length<100000) (d:Nat) (hu:UnOK l d) (hv:LvOK l d) (p0:List Tok) (p1 p2:Int) (p3:List Trm) (op:Int) (a m:Nat) (out:List Trm) (hd:8*(l.length-a)≤d) (ha:a<l.length) (ho:out.length+(l.length-a)<200000)
  (hop:op=0∨((op=4∨op=5)∧(l.getD a (Ty.dflt ty130)).1=4)):Rd l a out (unR d p0 p1 p2 p3 (m+1) (.l1006 op l a (-1) out)):=by
 show Rd l a out (T190 Ops.std _ _ _ _ p0 p1 p2 p3 _ some _)
 unfold T190
 have hw1:IntKind.wrap IntKind.i64 ((a:Int)+1)=((a+1:Nat):Int):=qaf (by omega)
 simp only [qad,qas,qag,qak,qal,qaa,qao,qab,mt,List.length_cons,List.length_nil,hw1]
 by_cases h0:op=0
 ·rw [if_neg (fun h=>h h0),if_pos (by omega)]
  obtain ⟨ht1,⟨ht2,ht3⟩,ht4⟩:=toks_at hl ha (Ty.dflt ty130)
  have hnx:=qbm hl ha (Ty.dflt ty130)
  generalize hg:l.getD a (Ty.dflt ty130)=tk at *
  by_cases hk1:tk.1=1
  ·have hn:=ht2 hk1
   have hnext:=hnx (by rw [hk1];decide)
   rw [if_pos hk1,if_pos (by omega)]
   refine ⟨a+1,-1,_,rfl,by omega,hnext,by simp,.inl ⟨rfl,by omega,[(1,tk.2.2.1,[],[])],goodE.nul ?_ rfl,rfl⟩⟩
   simp [mayT,hn]
  ·rw [if_neg hk1]
   by_cases hk2:tk.1=2
   ·have hn:=ht3 hk2
    have hnext:=hnx (by rw [hk2];decide)
    rw [if_pos hk2]
    obtain ⟨b,hb,hb2⟩:=is_ok [64] l (a+1) hnext (-1) out
    rw [hb,ob_s]
    dsimp only
    cases b with
    | false=>
      simp only [cond_false]
      rw [if_pos (by omega)]
      refine ⟨a+1,-1,_,rfl,by omega,hnext,by simp,.inl ⟨rfl,by omega,[(2,0,tk.2.1,[])],goodE.nul ?_ rfl,rfl⟩⟩
      simp [mayT,hn]
    | true=>
      simp only [cond_true]
      have hnext2:=qbm hl hnext (Ty.dflt ty130) (by rw [hb2 rfl];decide)
      have hw2:IntKind.wrap IntKind.i64 (((a+1:Nat):Int)+1)=((a+1+1:Nat):Int):=qaf (by omega)
      have hw3:IntKind.wrap IntKind.i64 (((a+1+1:Nat):Int)+1)=((a+1+1+1:Nat):Int):=qaf (by omega)
      simp only [hw2,hw3,qab]
      have hin:(0:Int)≤((a+1+1:Nat):Int)∧((a+1+1:Nat):Int)<(l.length:Int):=by omega
      simp only [if_pos hin]
      have hkk:=toks_at hl hnext2 (Ty.dflt ty130)
      have hnx2:=qbm hl hnext2 (Ty.dflt ty130)
      by_cases hk3:(l.getD (a+1+1) (Ty.dflt ty130)).1=2
      ·have hnext3:=hnx2 (by rw [hk3];decide)
       rw [if_neg (fun h=>h hk3),if_pos (by omega)]
       refine ⟨a+1+1+1,-1,_,rfl,by omega,hnext3,by simp;omega,.inl ⟨rfl,by omega,[(3,0,tk.2.1,(l.getD (a+1+1) (Ty.dflt ty130)).2.1)],goodE.nul ?_ rfl,rfl⟩⟩
       have:=hkk.2.1.2 hk3
       simp [mayT,hn]
       simpa using this
      ·rw [if_pos hk3]
       obtain ⟨b',hf,hf2⟩:=fail_ok l (a+1+1) (-1) out
       rw [hf,ob_s]
       have:=hf2 rfl
       subst this
       dsimp only
       exact ⟨a+1+1,_,_,rfl,by omega,hnext2,by simp,.inr ⟨by omega,by omega⟩⟩
   ·rw [if_neg hk2]
    obtain ⟨b,hb,hb2⟩:=is_ok [40] l a ha (-1) out
    rw [hb,ob_s]
    dsimp only
    cases b with
    | false=>
      simp only [cond_false]
      obtain ⟨b',hf,hf2⟩:=fail_ok l a (-1) out
      rw [hf,ob_s]
      have:=hf2 rfl
      subst this
      dsimp only
      exact ⟨a,_,_,rfl,by omega,ha,by simp,.inr ⟨by omega,by omega⟩⟩
    | true=>
      simp only [cond_true,hw1]
      rw [hg] at hb2
      have hnext:=hnx (by rw [hb2 rfl];decide)
      obtain ⟨a2,bad2,out2,f1,f2,f3,f4,f5⟩:=hv 1 (a+1) out (by omega) (by omega) (by omega) hnext (by omega)
      have f1':(Rec186 d).1 1 l ((a+1:Nat):Int) (-1) out=some (l,(a2:Int),bad2,out2):=f1
      rw [f1',ob_s]
      dsimp only
      rcases f5 with ⟨rfl,h3,e,he,rfl⟩ | ⟨h3,h4⟩
      ·rw [if_neg (by omega)]
       obtain ⟨b2,hb3,hb4⟩:=is_ok [41] l a2 f3 (-1) (out++e)
       rw [hb3,ob_s]
       dsimp only
       cases b2 with
       | false=>
         simp only [Bool.not_false,cond_true]
         obtain ⟨b',hf,hf2⟩:=fail_ok l a2 (-1) (out++e)
         rw [hf,ob_s]
         have:=hf2 rfl
         subst this
         dsimp only
         exact ⟨a2,_,_,rfl,by omega,f3,by omega,.inr ⟨by omega,by omega⟩⟩
       | true=>
         simp only [Bool.not_true,cond_false]
         have hnext2:=qbm hl f3 (Ty.dflt ty130) (by rw [hb4 rfl];decide)
         have hw2:IntKind.wrap IntKind.i64 ((a2:Int)+1)=((a2+1:Nat):Int):=qaf (by omega)
         rw [hw2]
         exact ⟨a2+1,-1,_,rfl,by omega,hnext2,by omega,.inl ⟨rfl,by omega,e,he,rfl⟩⟩
      ·rw [if_pos h3]
       exact ⟨a2,bad2,out2,rfl,by omega,f3,by omega,.inr ⟨h3,h4⟩⟩
 ·obtain ⟨hop1,hk4⟩:(op=4∨op=5)∧(l.getD a (Ty.dflt ty130)).1=4:=by
   rcases hop with h | h
   ·exact absurd h h0
   ·exact h
  have hnext:=qbm hl ha (Ty.dflt ty130) (by rw [hk4];decide)
  rw [if_pos h0]
  obtain ⟨a2,bad2,out2,f1,f2,f3,f4,f5⟩:=hu (a+1) out (by omega) hnext (by omega)
  rw [f1,ob_s]
  dsimp only
  rw [if_pos (by omega)]
  refine ⟨a2,bad2,_,rfl,by omega,f3,by simp;omega,?_⟩
  rcases f5 with ⟨rfl,h3,e,he,rfl⟩ | h
  ·refine .inl ⟨rfl,by omega,e++[(op,0,[],[])],he.un (may_op (by omega) (by omega)) ?_,by simp⟩
   show opE op=1
   unfold opE;(repeat' split)<;>omega
  ·exact .inr h
theorem reader_ok (hl:toksOK l) (hll:l.length<100000):∀ d,LvOK l d∧UnOK l d
 | 0=>⟨fun n a out _ _ h _ _=>(by omega),fun a out h _ _=>(by omega)⟩
 | d+1=>by
   obtain ⟨hv,hu⟩:=reader_ok hl hll d
   constructor
   ·intro n a out h1 h6 hd ha ho
    show Rd l a out (T186 Ops.std (Rec186 d).2 (Rec186 d).1 M191 n l a (-1) out (lvR d n l a (-1) out 1000000) some none)
    unfold T186
    simp only [qad,qaa]
    by_cases h5:n=6
    ·rw [if_pos (by omega)]
     obtain ⟨a2,bad2,out2,f1,f2⟩:=hu a out (by omega) ha ho
     rw [f1,ob_s]
     exact ⟨a2,bad2,out2,rfl,f2⟩
    ·rw [if_neg (by omega),show IntKind.wrap IntKind.i64 ((n:Int)+1)=((n+1:Nat):Int) from qaf (by omega)]
     obtain ⟨a2,bad2,out2,f1,f2,f3,f4,f5⟩:=hv (n+1) a out (by omega) (by omega) (by omega) ha ho
     rw [f1,ob_s]
     dsimp only
     exact qfp hl hll d n (by omega) l a (-1) out a out (fun a' out' h1 h2 h3=>hv (n+1) a' out' (by omega) (by omega) (by omega) h2 h3) (l.length-a2) a2 1000000 bad2 out2 (by omega) (by omega) f2 f3 (by omega) f4 f5
   ·intro a out hd ha ho
    show Rd l a out (T190 Ops.std M193 (Rec186 d).2 M194 (Rec186 d).1 l a (-1) out (unR d l a (-1) out 1000000) some none)
    unfold T190
    simp only [qas,qaa]
    rw [if_neg (by omega)]
    obtain ⟨b1,g1,g2⟩:=is_ok [33] l a ha (-1) out
    rw [g1,ob_s]
    dsimp only
    cases b1 with
    | true=>exact qdk hl hll d hu hv l a (-1) out 4 a 999999 out (by omega) ha ho (.inr ⟨.inl rfl,g2 rfl⟩)
    | false=>
      simp only [cond_false]
      obtain ⟨b2,g3,g4⟩:=is_ok [45] l a ha (-1) out
      rw [g3,ob_s]
      dsimp only
      cases b2 with
      | true=>exact qdk hl hll d hu hv l a (-1) out 5 a 999999 out (by omega) ha ho (.inr ⟨.inr rfl,g4 rfl⟩)
      | false=>exact qdk hl hll d hu hv l a (-1) out 0 a 999999 out (by omega) ha ho (.inl rfl)
theorem take_ok (hl:toksOK l) (hll:l.length<100000) (a:Nat) (ha:a<l.length):∃ (k:Nat) (e:Int) (x:List Trm),M177 l a=some ((k:Int),e,x)∧k<l.length∧
  ((e=0∧a<k∧rightE x=true∧x.length≤30)∨(e=2∧x=[])∨(e=13∧x=[]∧k=a)):=by
 show ∃ (k:Nat) (e:Int) (x:List Trm),T177 Ops.std M186 l a some=_∧_
 unfold T177
 simp only [qas,qad,qaa]
 obtain ⟨a2,bad,out,f1,f2,f3,f4,f5⟩:=(reader_ok hl hll 1000000).1 1 a [] (by omega) (by omega) (by omega) ha (by simp;omega)
 have f1':M186 1 l (a:Int) (-1) []=some (l,(a2:Int),bad,out):=f1
 rw [f1',ob_s]
 dsimp only
 rcases f5 with ⟨rfl,h1,e,he,hx⟩ | ⟨h1,h2⟩
 ·have hx:out=e:=by simpa using hx
  subst hx
  rw [if_neg (by omega)]
  by_cases h30:30<out.length
  ·rw [if_pos (by omega)]
   exact ⟨a,13,[],rfl,ha,.inr (.inr ⟨rfl,rfl,rfl⟩)⟩
  ·rw [if_neg (by omega)]
   exact ⟨a2,0,out,rfl,f3,.inl ⟨rfl,h1,he.right (by omega),by omega⟩⟩
 ·rw [if_pos h1]
  refine ⟨bad.toNat,2,[],?_,by omega,.inr (.inl ⟨rfl,rfl⟩)⟩
  rw [Int.toNat_of_nonneg h1]
end
section
variable {f:List Prt} {Run:Nat→Nat→List (List Int)→List Int→Option (List (List Int))} {E:List Trm→Bool}
def KStep (f:List Prt) (Run:Nat→Nat→List (List Int)→List Int→Option (List (List Int))):Prop:=
 ∀ (n i:Nat) (out:List (List Int)) (st:List Int) (a:Nat),i<f.length→f.length≤60→opn (f.getD i (Ty.dflt ty66)).1=(a:Int)→a≤st.length→st.length≤i→out.length≤i→
   Run (n+1) i out st=Run n (i+1) (out++[st.drop (st.length-a)]) (st.take (st.length-a)++[(i:Int)])
theorem kids_tree (hstep:KStep f Run) (h60:f.length≤60) (t:Fm Trm) (ht:t.wf E):∀ (pre post:List Prt),f=pre++t.flat++post→∀ (n:Nat) (out:List (List Int)) (st:List Int),st.length≤pre.length→out.length≤pre.length→
  Run (n+t.size) pre.length out st=Run n (pre.length+t.size) (out++t.kids pre.length) (st++[((pre.length+t.size-1:Nat):Int)]):=by
 induction t with
 | nul p=>
   intro pre post hf n out st hs ho
   have hlen:f.length=pre.length+(1+post.length):=by rw [hf];simp [Fm.flat];omega
   have hg:f.getD pre.length (Ty.dflt ty66)=p:=by
    rw [hf,show pre++(Fm.nul p).flat++post=pre++p::post by simp [Fm.flat]];exact qbg _ _ _ _
   have:=hstep n pre.length out st 0 (by omega) h60 (by rw [hg];exact ht.1) (by omega) hs ho
   simp only [Fm.size,Fm.kids]
   rw [this]
   simp
 | un p a ih=>
   intro pre post hf n out st hs ho
   have hla:=a.flat_len
   have hlen:f.length=pre.length+(a.size+1+post.length):=by rw [hf];simp [Fm.flat,hla];omega
   have hsa:=a.size_pos
   have e:n+(Fm.un p a).size=(n+1)+a.size:=by simp only [Fm.size];omega
   rw [e,ih ht.2.2 pre ([p]++post) (by rw [hf];simp [Fm.flat]) (n+1) out st hs ho]
   have hg:f.getD (pre.length+a.size) (Ty.dflt ty66)=p:=by
    rw [hf,show pre++(Fm.un p a).flat++post=(pre++a.flat)++p::post by simp [Fm.flat],show pre.length+a.size=(pre++a.flat).length by simp [hla]];exact qbg _ _ _ _
   have:=hstep n (pre.length+a.size) (out++a.kids pre.length) (st++[((pre.length+a.size-1:Nat):Int)]) 1 (by omega) h60 (by rw [hg];exact ht.1) (by simp) (by simp;omega) (by simp [a.kids_len];omega)
   rw [this]
   simp [Fm.size,Fm.kids]
   rfl
 | bi p a c iha ihc=>
   intro pre post hf n out st hs ho
   have hla:=a.flat_len
   have hlc:=c.flat_len
   have hlen:f.length=pre.length+(a.size+c.size+1+post.length):=by rw [hf];simp [Fm.flat,hla,hlc];omega
   have hsa:=a.size_pos
   have hsc:=c.size_pos
   have e:n+(Fm.bi p a c).size=(n+1+c.size)+a.size:=by simp only [Fm.size];omega
   rw [e,iha ht.2.2.1 pre (c.flat++[p]++post) (by rw [hf];simp [Fm.flat]) (n+1+c.size) out st hs ho]
   have e2:=ihc ht.2.2.2 (pre++a.flat) ([p]++post) (by rw [hf];simp [Fm.flat]) (n+1) (out++a.kids pre.length) (st++[((pre.length+a.size-1:Nat):Int)]) (by simp [hla];omega) (by simp [a.kids_len,hla];omega)
   rw [show (pre++a.flat).length=pre.length+a.size by simp [hla]] at e2
   rw [e2]
   have hg:f.getD (pre.length+a.size+c.size) (Ty.dflt ty66)=p:=by
    rw [hf,show pre++(Fm.bi p a c).flat++post=(pre++a.flat++c.flat)++p::post by simp [Fm.flat],show pre.length+a.size+c.size=(pre++a.flat++c.flat).length by simp [hla,hlc];omega];exact qbg _ _ _ _
   have:=hstep n (pre.length+a.size+c.size) (out++a.kids pre.length++c.kids (pre.length+a.size)) (st++[((pre.length+a.size-1:Nat):Int)]++[((pre.length+a.size+c.size-1:Nat):Int)]) 2 (by omega) h60 (by rw [hg];exact ht.1) (by simp) (by simp;omega) (by simp [a.kids_len,c.kids_len];omega)
   rw [this]
   have e3:(st++[((pre.length+a.size-1:Nat):Int)]++[((pre.length+a.size+c.size-1:Nat):Int)]).length-2=st.length:=by simp
   rw [e3,List.append_assoc st,List.take_left' rfl,List.drop_left' rfl]
   simp only [Fm.size,Fm.kids,List.append_assoc,List.cons_append,List.nil_append]
   rw [show pre.length+(a.size+c.size+1)-1=pre.length+a.size+c.size by omega,show pre.length+(a.size+c.size+1)=pre.length+a.size+c.size+1 by omega]
theorem kids_all (hstep:KStep f Run) (hend:∀ n out st,Run (n+1) f.length out st=some out) {t:Fm Trm} (ht:t.wf E) (hf:f=t.flat) (h60:t.size≤60) (n:Nat):Run (n+1+t.size) 0 [] []=some (t.kids 0):=by
 have hl:f.length=t.size:=by rw [hf,t.flat_len]
 have:=kids_tree (E:=E) hstep (by omega) t ht [] [] (by simp [hf]) (n+1) [] [] (by simp) (by simp)
 simp only [List.length_nil,Nat.zero_add,List.nil_append] at this
 rw [this,←hl,hend]
end
theorem clone_ints (xs:List Int) (h:xs.length<900000):M97 xs=some xs:=by
 unfold M97 cloneF fits
 rw [qaa,if_pos (by omega)]
theorem qfc (f:List Prt):KStep f (fun n i out st=>R52 M95 M96 M97 f n (.l0 (f.length:Nat) i out st)):=by
 intro n i out st a hi h60 ha hst hsi hoi
 show T52 Ops.std _ _ _ f _ some _=_
 unfold T52
 simp only [qad,qag,qal,qaa,qab]
 have hw:IntKind.wrap IntKind.i64 (((st.length:Nat):Int)-(a:Int))=((st.length-a:Nat):Int):=by rw [wrap64 (by omega) (by omega)];omega
 have hw2:IntKind.wrap IntKind.i64 ((i:Int)+1)=((i+1:Nat):Int):=qaf (by omega)
 rw [if_pos (by omega),if_pos (by omega),opn_prog,ob_s,ha]
 simp only [hw,hw2,qab,List.take_length,mt,List.length_cons,List.length_nil]
 rw [if_pos (by omega),clone_ints _ (by simp;omega),ob_s,if_pos (by omega),if_pos (by omega),if_pos (by simp;omega)]
theorem prog_kids_end (f:List Prt) (n:Nat) (out:List (List Int)) (st:List Int):R52 M95 M96 M97 f (n+1) (.l0 (f.length:Nat) (f.length:Nat) out st)=some out:=by
 show T52 Ops.std _ _ _ f _ some _=_
 unfold T52
 simp only [qad,qaa]
 rw [if_neg (by omega)]
section
variable (E:List Trm→Bool)
theorem prog_kids_no (f:List Prt) (hr:M95 f=some false):M52 f=some []:=by
 show T52 Ops.std M95 M96 M97 f (R52 M95 M96 M97 f 1000000) some none=_
 unfold T52
 rw [hr,ob_s];rfl
theorem qbw {t:Fm Trm} (ht:t.wf E) (h60:t.size≤60) (hr:M95 t.flat=some true):M52 t.flat=some (t.kids 0):=by
 show T52 Ops.std M95 M96 M97 t.flat (R52 M95 M96 M97 t.flat 1000000) some none=_
 unfold T52
 rw [hr,ob_s]
 have:=kids_all (E:=E) (qfc t.flat) (prog_kids_end t.flat) ht rfl h60 (1000000-1-t.size)
 rw [show 1000000-1-t.size+1+t.size=1000000 by omega] at this
 exact this
theorem ref_kids_step (f:List Prt):KStep f (fun n i out st=>R37 M63 M73 f n (.l0 i out st)):=by
 intro n i out st a hi h60 ha hst hsi hoi
 show T37 Ops.std _ _ f _ some _=_
 unfold T37
 have hw:IntKind.wrap IntKind.i64 (((st.length:Nat):Int)-(a:Int))=((st.length-a:Nat):Int):=by rw [wrap64 (by omega) (by omega)];omega
 have hw2:IntKind.wrap IntKind.i64 ((i:Int)+1)=((i+1:Nat):Int):=qaf (by omega)
 simp only [qad,qag,qal,qak,qaa,qab,mt,List.nil_append,List.length_nil,List.length_cons]
 rw [if_pos (by omega),if_pos (by omega),opn_ref,ob_s,ha]
 simp only [hw,hw2,qab,List.take_length]
 rw [if_neg (by omega),if_pos (by omega),if_pos (by simp;omega),if_pos (by omega),if_pos trivial,if_pos (by omega),if_pos (by omega),if_pos (by simp;omega)]
theorem ref_kids_end (f:List Prt) (n:Nat) (out:List (List Int)) (st:List Int):R37 M63 M73 f (n+1) (.l0 (f.length:Nat) out st)=some out:=by
 show T37 Ops.std _ _ f _ some _=_
 unfold T37
 simp only [qad,qaa]
 rw [if_neg (by omega)]
theorem qca {t:Fm Trm} (ht:t.wf E) (h60:t.size≤60) (hr:M63 t.flat=some true):M37 t.flat=some (t.kids 0):=by
 show T37 Ops.std M63 M73 t.flat (R37 M63 M73 t.flat 1000000) some none=_
 unfold T37
 rw [hr,ob_s]
 have:=kids_all (E:=E) (ref_kids_step t.flat) (ref_kids_end t.flat) ht rfl h60 (1000000-1-t.size)
 rw [show 1000000-1-t.size+1+t.size=1000000 by omega] at this
 exact this
end
def otherK (k:Int):Int:=if k=1 then 2 else if k=2 then 1 else if k=5 then 6 else if k=6 then 5 else if k=9 then 10 else if k=10 then 9 else k
def sgn (k:Int) (no:Bool):Int:=if no then otherK k else k
def nnfT:Fm Trm→Bool→Fm Trm
 | .nul p,no=>if p.1=3 then (if no then .un (4,[]) (.nul p) else .nul p) else .nul (sgn p.1 no,[])
 | .un p a,no=>if p.1=4 then nnfT a (!no) else if p.1=11 then .bi (sgn 9 no,[]) (.nul (sgn 1 no,[])) (nnfT a no) else if p.1=12 then .bi (sgn 10 no,[]) (.nul (sgn 2 no,[])) (nnfT a no) else .un (sgn p.1 no,[]) (nnfT a no)
 | .bi p a b,no=>if p.1=7 then .bi (sgn 6 no,[]) (nnfT a (!no)) (nnfT b no) else .bi (sgn p.1 no,[]) (nnfT a no) (nnfT b no)
theorem qcb (t:Fm Trm):∀ no,(nnfT t no).size≤2*t.size:=by
 induction t with
 | nul p=>intro no;simp only [nnfT];split<;>(try split)<;>simp [Fm.size]
 | un p a ih=>
   intro no
   have h1:=ih no
   have h2:=ih (!no)
   simp only [nnfT]
   split
   ·simp only [Fm.size];omega
   ·split
    ·simp only [Fm.size];omega
    ·split<;>simp only [Fm.size]<;>omega
 | bi p a b iha ihb=>
   intro no
   have h1:=iha no
   have h2:=iha (!no)
   have h3:=ihb no
   simp only [nnfT]
   split<;>simp only [Fm.size]<;>omega
def Fm.last:Fm Trm→Nat→List Int
 | .nul _,_=>[]
 | .un _ a,b=>[((b+a.size-1:Nat):Int)]
 | .bi _ a c,b=>[((b+a.size-1:Nat):Int),((b+a.size+c.size-1:Nat):Int)]
theorem kids_last (t:Fm Trm) (b:Nat):∃ l,t.kids b=l++[t.last b]∧l.length+1=t.size:=by
 cases t with
 | nul p=>exact ⟨[],rfl,rfl⟩
 | un p a=>exact ⟨a.kids b,rfl,by simp [a.kids_len,Fm.size]⟩
 | bi p a c=>exact ⟨a.kids b++c.kids (b+a.size),rfl,by simp [a.kids_len,c.kids_len,Fm.size]⟩
structure At (f:List Prt) (K:List (List Int)) (t:Fm Trm) (b:Nat):Prop where
 parts:∃ pre post,f=pre++t.flat++post∧pre.length=b
 kids:∃ pre post,K=pre++t.kids b++post∧pre.length=b
section
variable {f:List Prt} {K:List (List Int)} {b:Nat}
theorem At.len {t:Fm Trm} (h:At f K t b):b+t.size≤f.length∧b+t.size≤K.length:=by
 obtain ⟨⟨pre,post,h1,h2⟩,⟨kp,kq,h3,h4⟩⟩:=h
 constructor
 ·rw [h1];simp only [List.length_append,t.flat_len,h2];omega
 ·rw [h3];simp only [List.length_append,t.kids_len,h4];omega
theorem At.root {t:Fm Trm} (h:At f K t b) (d:Prt):f.getD (b+t.size-1) d=t.root:=by
 obtain ⟨⟨pre,post,h1,h2⟩,_⟩:=h
 obtain ⟨l,hl,hlen⟩:=flat_last t
 rw [h1,hl,show pre++(l++[t.root])++post=(pre++l)++t.root::post by simp,show b+t.size-1=(pre++l).length by simp [h2];omega]
 exact qbg _ _ _ _
theorem At.last {t:Fm Trm} (h:At f K t b) (d:List Int):K.getD (b+t.size-1) d=t.last b:=by
 obtain ⟨_,⟨pre,post,h1,h2⟩⟩:=h
 obtain ⟨l,hl,hlen⟩:=kids_last t b
 rw [h1,hl,show pre++(l++[t.last b])++post=(pre++l)++t.last b::post by simp,show b+t.size-1=(pre++l).length by simp [h2];omega]
 exact qbg _ _ _ _
theorem At.un {p:Prt} {a:Fm Trm} (h:At f K (.un p a) b):At f K a b:=by
 obtain ⟨⟨pre,post,h1,h2⟩,⟨kp,kq,h3,h4⟩⟩:=h
 exact ⟨⟨pre,[p]++post,by rw [h1];simp [Fm.flat],h2⟩,⟨kp,[[((b+a.size-1:Nat):Int)]]++kq,by rw [h3];simp [Fm.kids],h4⟩⟩
theorem At.bi1 {p:Prt} {a c:Fm Trm} (h:At f K (.bi p a c) b):At f K a b:=by
 obtain ⟨⟨pre,post,h1,h2⟩,⟨kp,kq,h3,h4⟩⟩:=h
 exact ⟨⟨pre,c.flat++[p]++post,by rw [h1];simp [Fm.flat],h2⟩,⟨kp,c.kids (b+a.size)++[[((b+a.size-1:Nat):Int),((b+a.size+c.size-1:Nat):Int)]]++kq,by rw [h3];simp [Fm.kids],h4⟩⟩
theorem At.bi2 {p:Prt} {a c:Fm Trm} (h:At f K (.bi p a c) b):At f K c (b+a.size):=by
 obtain ⟨⟨pre,post,h1,h2⟩,⟨kp,kq,h3,h4⟩⟩:=h
 exact ⟨⟨pre++a.flat,[p]++post,by rw [h1];simp [Fm.flat],by simp [h2,a.flat_len]⟩,⟨kp++a.kids b,[[((b+a.size-1:Nat):Int),((b+a.size+c.size-1:Nat):Int)]]++kq,by rw [h3];simp [Fm.kids],by simp [h4,a.kids_len]⟩⟩
end
theorem At.all (t:Fm Trm):At t.flat (t.kids 0) t 0:=⟨⟨[],[],by simp,rfl⟩,⟨[],[],by simp,rfl⟩⟩
theorem other_ref (k:Int) (hk:k=5∨k=6∨k=9∨k=10):M155 k=some (otherK k):=by
 show T155 Ops.std k some=_
 unfold T155 otherK
 simp only [qak,qaa]
 (repeat' split)<;>first | rfl | (exfalso;omega)
noncomputable abbrev pushR (d:Nat):=R93 (Rec93 d) M155
section
variable (f:List Prt) (K:List (List Int)) (i:Int) (no:Bool) (out:List Prt) (d n:Nat)
theorem qc0 (k:Int) (ho:out.length<900000):pushR d f K i no out (n+1) (.l1010 k)=some (out++[(k,[])]):=by
 show T93 Ops.std _ _ f K i no out _ some _=_
 unfold T93
 simp only [qal,qaa,mt,List.length_cons,List.length_nil]
 rw [if_pos (by omega)]
theorem push_1015 (l:List Prt):pushR d f K i no out (n+1) (.l1015 l)=some l:=by
 show T93 Ops.std _ _ f K i no out _ some _=_
 unfold T93
 rfl
theorem push_1038 (k:Int) (hk:k=5∨k=6∨k=9∨k=10) (l:List Prt) (hl:l.length<900000):pushR d f K i no out (n+1) (.l1038 k l)=some (l++[(sgn k no,[])]):=by
 show T93 Ops.std _ _ f K i no out _ some _=_
 unfold T93
 simp only [qal,qaa,mt,List.length_cons,List.length_nil]
 cases no with
 | true=>
   simp only [cond_true]
   rw [other_ref k hk,ob_s,if_pos (by omega)]
   simp [sgn]
 | false=>
   simp only [cond_false]
   rw [if_pos (by omega)]
   simp [sgn]
theorem push_1026 (k1 k2 x:Int) (ho:out.length<900000) (o2:List Prt) (h:Rec93 d f K x no (out++[(k2,[])])=some o2) (ho2:o2.length<900000):pushR d f K i no out (n+1) (.l1026 k1 [x] k2)=some (o2++[(k1,[])]):=by
 show T93 Ops.std _ _ f K i no out _ some _=_
 unfold T93
 simp only [qal,qag,qaa,mt,List.length_cons,List.length_nil]
 rw [if_pos (by omega),if_pos (by omega),show ([x]:List Int).getD (Int.toNat 0) (Ty.dflt ty3)=x from rfl,h,ob_s,if_pos (by omega)]
theorem push_1033 (k1 k2 x:Int) (ho:out.length<900000) (o2:List Prt) (h:Rec93 d f K x no (out++[(k2,[])])=some o2) (ho2:o2.length<900000):pushR d f K i no out (n+1) (.l1033 k1 [x] k2)=some (o2++[(k1,[])]):=by
 show T93 Ops.std _ _ f K i no out _ some _=_
 unfold T93
 simp only [qal,qag,qaa,mt,List.length_cons,List.length_nil]
 rw [if_pos (by omega),if_pos (by omega),show ([x]:List Int).getD (Int.toNat 0) (Ty.dflt ty3)=x from rfl,h,ob_s,if_pos (by omega)]
end
theorem push_ok {E:List Trm→Bool} {f:List Prt} {K:List (List Int)} (hl:f.length≤60):∀ (t:Fm Trm),t.wf E→∀ (b:Nat),At f K t b→∀ (d:Nat),t.size≤d→∀ (no:Bool) (out:List Prt),out.length+2*t.size<800000→
  Rec93 d f K ((b+t.size-1:Nat):Int) no out=some (out++(nnfT t no).flat):=by
 intro t
 induction t with
 | nul p=>
   intro ht b hat d hd no out hout
   obtain ⟨e,rfl⟩:∃ e,d=e+1:=⟨d-1,by simp [Fm.size] at hd;omega⟩
   have hr:=hat.root (Ty.dflt ty66)
   have hk:=hat.last (Ty.dflt ty22)
   have hlen:=hat.len
   simp only [Fm.size,Fm.root,Fm.last,Nat.add_sub_cancel] at hr hk hlen hout ⊢
   show T93 Ops.std (Rec93 e) M155 f K b no out (pushR e f K b no out 1000000) some none=_
   unfold T93
   simp only [qag,qak,qal,qaa,qab,hr,hk,mt,List.length_append,List.length_cons,List.length_nil]
   rw [if_pos (by omega),if_pos (by omega)]
   have ho:p.1=1∨p.1=2∨p.1=3:=by
    have:=ht.1
    unfold opn at this
    split at this
    ·assumption
    ·split at this
     ·simp at this
     ·split at this<;>simp at this
   have hw:p.1=1∨p.1=2→IntKind.wrap IntKind.i64 (3-p.1)=otherK p.1:=fun h=>by
    rw [wrap64 (by omega) (by omega)]
    rcases h with h | h<;>rw [h]<;>rfl
   by_cases h1:p.1=1
   ·rw [if_pos h1,hw (.inl h1)]
    cases no with
    | true=>
      simp only [cond_true]
      rw [qc0 f K b true out e 999999 _ (by omega)]
      simp [nnfT,h1,sgn,Fm.flat]
    | false=>
      simp only [cond_false]
      rw [qc0 f K b false out e 999999 _ (by omega)]
      simp [nnfT,h1,sgn,Fm.flat]
   ·rw [if_neg h1]
    by_cases h2:p.1=2
    ·rw [if_pos h2,hw (.inr h2)]
     cases no with
     | true=>
       simp only [cond_true]
       rw [qc0 f K b true out e 999999 _ (by omega)]
       simp [nnfT,h2,sgn,Fm.flat]
     | false=>
       simp only [cond_false]
       rw [qc0 f K b false out e 999999 _ (by omega)]
       simp [nnfT,h2,sgn,Fm.flat]
    ·have h3:p.1=3:=by omega
     rw [if_neg h2,if_pos h3,if_pos (by omega),if_pos (by omega)]
     cases no with
     | true=>
       simp only [cond_true]
       rw [if_pos (by omega),push_1015]
       simp [nnfT,h3,Fm.flat]
       cases p;simp at h3;simp [h3]
     | false=>
       simp only [cond_false]
       rw [push_1015]
       simp [nnfT,h3,Fm.flat]
       cases p;simp at h3;simp [h3]
 | un p a ih=>
   intro ht b hat d hd no out hout
   obtain ⟨e,rfl⟩:∃ e,d=e+1:=⟨d-1,by simp [Fm.size] at hd;omega⟩
   have hr:=hat.root (Ty.dflt ty66)
   have hk:=hat.last (Ty.dflt ty22)
   have hlen:=hat.len
   have hsa:=a.size_pos
   have hn1:=qcb a no
   have ih':=fun no out ho=>ih ht.2.2 b hat.un e (by simp [Fm.size] at hd;omega) no out ho
   have hi:b+(Fm.un p a).size-1=b+a.size:=by simp only [Fm.size];omega
   rw [hi] at hr hk ⊢
   simp only [Fm.size,Fm.root,Fm.last] at hr hk hlen hout
   show T93 Ops.std (Rec93 e) M155 f K ((b+a.size:Nat):Int) no out (pushR e f K ((b+a.size:Nat):Int) no out 1000000) some none=_
   unfold T93
   simp only [qag,qak,qal,qaa,qab,hr,hk,mt,List.length_append,List.length_cons,List.length_nil]
   have hg0:([((b+a.size-1:Nat):Int)]:List Int).getD (Int.toNat 0) (Ty.dflt (Ty.int IntKind.i64))=((b+a.size-1:Nat):Int):=rfl
   have ho:p.1=4∨p.1=8∨p.1=11∨p.1=12:=by
    have:=ht.1
    unfold opn at this
    split at this
    ·simp at this
    ·split at this
     ·assumption
     ·split at this<;>simp at this
   rw [if_pos (by omega),if_pos (by omega),if_neg (by omega),if_neg (by omega),if_neg (by omega)]
   by_cases h4:p.1=4
   ·rw [if_pos h4,if_pos (by omega),hg0,ih' (!no) out (by omega),ob_s]
    simp [nnfT,h4]
   ·rw [if_neg h4]
    by_cases h8:p.1=8
    ·rw [if_pos h8,if_pos (by omega),hg0,ih' no out (by omega),ob_s,if_pos (by rw [List.length_append,Fm.flat_len];omega)]
     cases no<;>simp [nnfT,h8,Fm.flat,sgn,otherK]
    ·rw [if_neg h8]
     by_cases h11:p.1=11
     ·rw [if_pos h11]
      have hi':=fun k=>ih' no (out++[(k,[])]) (by simp;omega)
      cases no with
      | true=>
        simp only [cond_true]
        refine (push_1026 f K _ true out e 999999 10 2 _ (by omega) _ (hi' 2) (by simp [Fm.flat_len];omega)).trans ?_
        simp [nnfT,h11,Fm.flat,sgn,otherK]
      | false=>
        simp only [cond_false]
        refine (push_1026 f K _ false out e 999999 9 1 _ (by omega) _ (hi' 1) (by simp [Fm.flat_len];omega)).trans ?_
        simp [nnfT,h11,Fm.flat,sgn,otherK]
     ·have h12:p.1=12:=by omega
      rw [if_neg h11,if_pos h12]
      have hi':=fun k=>ih' no (out++[(k,[])]) (by simp;omega)
      cases no with
      | true=>
        simp only [cond_true]
        refine (push_1033 f K _ true out e 999999 9 1 _ (by omega) _ (hi' 1) (by simp [Fm.flat_len];omega)).trans ?_
        simp [nnfT,h12,Fm.flat,sgn,otherK]
      | false=>
        simp only [cond_false]
        refine (push_1033 f K _ false out e 999999 10 2 _ (by omega) _ (hi' 2) (by simp [Fm.flat_len];omega)).trans ?_
        simp [nnfT,h12,Fm.flat,sgn,otherK]
 | bi p a c iha ihc=>
   intro ht b hat d hd no out hout
   obtain ⟨e,rfl⟩:∃ e,d=e+1:=⟨d-1,by simp [Fm.size] at hd;omega⟩
   have hr:=hat.root (Ty.dflt ty66)
   have hk:=hat.last (Ty.dflt ty22)
   have hlen:=hat.len
   have hsa:=a.size_pos
   have hsc:=c.size_pos
   have hn1:=qcb a no
   have hn2:=qcb a (!no)
   have hn3:=qcb c no
   have iha':=fun no out ho=>iha ht.2.2.1 b hat.bi1 e (by simp [Fm.size] at hd;omega) no out ho
   have ihc':=fun no out ho=>ihc ht.2.2.2 (b+a.size) hat.bi2 e (by simp [Fm.size] at hd;omega) no out ho
   have hi:b+(Fm.bi p a c).size-1=b+a.size+c.size:=by simp only [Fm.size];omega
   rw [hi] at hr hk ⊢
   simp only [Fm.size,Fm.root,Fm.last] at hr hk hlen hout
   show T93 Ops.std (Rec93 e) M155 f K ((b+a.size+c.size:Nat):Int) no out (pushR e f K ((b+a.size+c.size:Nat):Int) no out 1000000) some none=_
   unfold T93
   simp only [qag,qak,qal,qaa,qab,hr,hk,mt,List.length_append,List.length_cons,List.length_nil]
   have hg0:([((b+a.size-1:Nat):Int),((b+a.size+c.size-1:Nat):Int)]:List Int).getD (Int.toNat 0) (Ty.dflt (Ty.int IntKind.i64))=((b+a.size-1:Nat):Int):=rfl
   have hg1:([((b+a.size-1:Nat):Int),((b+a.size+c.size-1:Nat):Int)]:List Int).getD (Int.toNat 1) (Ty.dflt (Ty.int IntKind.i64))=((b+a.size+c.size-1:Nat):Int):=rfl
   have ho:p.1=5∨p.1=6∨p.1=7∨p.1=9∨p.1=10:=by
    have:=ht.1
    unfold opn at this
    split at this
    ·simp at this
    ·split at this
     ·simp at this
     ·split at this
      ·assumption
      ·simp at this
   rw [if_pos (by omega),if_pos (by omega),if_neg (by omega),if_neg (by omega),if_neg (by omega),if_neg (by omega),if_neg (by omega),if_neg (by omega),if_neg (by omega)]
   by_cases h7:p.1=7
   ·rw [if_pos h7,if_pos (by omega),hg0,iha' (!no) out (by omega),ob_s,if_pos (by omega),hg1,ihc' no _ (by simp [Fm.flat_len];omega),ob_s,push_1038 _ _ _ _ _ _ _ _ (by omega) _ (by simp [Fm.flat_len];omega)]
    simp [nnfT,h7,Fm.flat]
   ·rw [if_neg h7,if_pos (by omega),hg0,iha' no out (by omega),ob_s,if_pos (by omega),hg1,ihc' no _ (by simp [Fm.flat_len];omega),ob_s,push_1038 _ _ _ _ _ _ _ _ (by omega) _ (by simp [Fm.flat_len];omega)]
    simp [nnfT,h7,Fm.flat]
def nnfL (t:Fm Trm) (no:Bool):List Prt:=if (nnfT t no).size≤60 then (nnfT t no).flat else []
section
variable {E:List Trm→Bool}
theorem qcl {t:Fm Trm} (ht:t.wf E) (h60:t.size≤60) (hr:M63 t.flat=some true) (no:Bool):M49 t.flat no=some (nnfL t no):=by
 show T49 Ops.std M63 M37 M93 t.flat no some=_
 unfold T49
 have hsz:=t.size_pos
 have hn:=qcb t no
 rw [hr,ob_s,qca E ht h60 hr]
 simp only [Bool.not_true,cond_false,ob_s,qad,qaa,mt,t.flat_len]
 rw [show IntKind.wrap IntKind.i64 (((t.size:Nat):Int)-1)=((0+t.size-1:Nat):Int) by rw [wrap64 (by omega) (by omega)];omega]
 have h1:M93 t.flat (t.kids 0) ((0+t.size-1:Nat):Int) no []=some ([]++(nnfT t no).flat):=push_ok (by rw [t.flat_len];exact h60) t ht 0 (At.all t) 1000000 (by omega) no [] (by simp;omega)
 rw [h1,ob_s]
 unfold nnfL
 simp only [List.nil_append,Fm.flat_len]
 by_cases h:(nnfT t no).size≤60
 ·rw [if_pos h,if_neg (by omega)]
 ·rw [if_neg h,if_pos (by omega)]
theorem qc1 (f:List Prt) (hr:M63 f=some false) (no:Bool):M49 f no=some []:=by
 show T49 Ops.std M63 M37 M93 f no some=_
 unfold T49
 rw [hr,ob_s];rfl
end
theorem ref_Nnf (f:List Prt):M13 f=M49 f false:=by
 show T13 Ops.std M49 f some=_
 unfold T13
 cases M49 f false<;>rfl
theorem qfq (f:List Prt):M16 f=M49 f true:=by
 show T16 Ops.std M49 f some=_
 unfold T16
 cases M49 f true<;>rfl
def isT:Fm Trm→Bool
 | .nul _=>true
 | .un p a=>!decide (p.1=11∨p.1=12∨(p.1=4∧a.root.1≠3)) && isT a
 | .bi p a b=>!decide (p.1=7) && (isT a && isT b)
def IStep (f:List Prt) (K:List (List Int)) (Run:Nat→Nat→Option Bool):Prop:=
 ∀ (n i:Nat) (p:Prt) (ks:List Int),i<f.length→i<K.length→f.length≤60→f.getD i (Ty.dflt ty66)=p→K.getD i (Ty.dflt ty22)=ks→(p.1=4→∃ j:Nat,ks=[(j:Int)]∧j<f.length)→
   Run (n+1) i=if p.1=7∨p.1=11∨p.1=12∨(p.1=4∧(f.getD (Int.toNat (ks.getD 0 0)) (Ty.dflt ty66)).1≠3) then some false else Run n (i+1)
theorem is_tree {E:List Trm→Bool} {f:List Prt} {K:List (List Int)} {Run:Nat→Nat→Option Bool} (hs:IStep f K Run) (h60:f.length≤60):∀ (t:Fm Trm),t.wf E→∀ (b:Nat),At f K t b→∀ n,Run (n+t.size) b=if isT t then Run n (b+t.size) else some false:=by
 intro t
 induction t with
 | nul p=>
   intro ht b hat n
   have hr:=hat.root (Ty.dflt ty66)
   have hk:=hat.last (Ty.dflt ty22)
   have hlen:=hat.len
   simp only [Fm.size,Fm.root,Fm.last,Nat.add_sub_cancel] at hr hk hlen ⊢
   have ho:p.1=1∨p.1=2∨p.1=3:=by
    have:=ht.1
    unfold opn at this
    split at this
    ·assumption
    ·split at this
     ·simp at this
     ·split at this<;>simp at this
   rw [hs n b p [] (by omega) (by omega) h60 hr hk (by intro h;omega),if_neg (by omega)]
   simp [isT]
 | un p a ih=>
   intro ht b hat n
   have hr:=hat.root (Ty.dflt ty66)
   have hk:=hat.last (Ty.dflt ty22)
   have hra:=hat.un.root (Ty.dflt ty66)
   have hlen:=hat.len
   have hsa:=a.size_pos
   have hi:b+(Fm.un p a).size-1=b+a.size:=by simp only [Fm.size];omega
   rw [hi] at hr hk
   simp only [Fm.size,Fm.root,Fm.last] at hr hk hlen ⊢
   rw [show n+(a.size+1)=(n+1)+a.size by omega,ih ht.2.2 b hat.un (n+1)]
   have hg:([((b+a.size-1:Nat):Int)]:List Int).getD 0 0=((b+a.size-1:Nat):Int):=rfl
   rw [hs n (b+a.size) p _ (by omega) (by omega) h60 hr hk (fun _=>⟨b+a.size-1,rfl,by omega⟩),hg,qab,hra]
   have ho:p.1=4∨p.1=8∨p.1=11∨p.1=12:=by
    have:=ht.1
    unfold opn at this
    split at this
    ·simp at this
    ·split at this
     ·assumption
     ·split at this<;>simp at this
   simp only [isT]
   by_cases hc:p.1=11∨p.1=12∨(p.1=4∧a.root.1≠3)
   ·rw [if_pos (show p.1=7∨p.1=11∨p.1=12∨(p.1=4∧a.root.1≠3) from .inr hc)]
    simp only [hc,decide_true,Bool.not_true,Bool.false_and,Bool.false_eq_true,if_false]
    split<;>rfl
   ·rw [if_neg (show ¬ (p.1=7∨p.1=11∨p.1=12∨(p.1=4∧a.root.1≠3)) from fun h=>by rcases h with h | h;omega;exact hc h)]
    simp only [hc,decide_false,Bool.not_false,Bool.true_and]
    rfl
 | bi p a c iha ihc=>
   intro ht b hat n
   have hr:=hat.root (Ty.dflt ty66)
   have hk:=hat.last (Ty.dflt ty22)
   have hlen:=hat.len
   have hsa:=a.size_pos
   have hsc:=c.size_pos
   have hi:b+(Fm.bi p a c).size-1=b+a.size+c.size:=by simp only [Fm.size];omega
   rw [hi] at hr hk
   simp only [Fm.size,Fm.root,Fm.last] at hr hk hlen ⊢
   rw [show n+(a.size+c.size+1)=(n+1+c.size)+a.size by omega,iha ht.2.2.1 b hat.bi1,ihc ht.2.2.2 (b+a.size) hat.bi2]
   have ho:p.1=5∨p.1=6∨p.1=7∨p.1=9∨p.1=10:=by
    have:=ht.1
    unfold opn at this
    split at this
    ·simp at this
    ·split at this
     ·simp at this
     ·split at this
      ·assumption
      ·simp at this
   have hroot:=hs n (b+a.size+c.size) p _ (by omega) (by omega) h60 hr hk (fun h=>by omega)
   simp only [isT]
   by_cases hc:p.1=7
   ·rw [if_pos (.inl hc)] at hroot
    rw [hroot]
    simp only [hc,decide_true,Bool.not_true,Bool.false_and,Bool.false_eq_true,if_false]
    cases isT a<;>cases isT c<;>rfl
   ·rw [if_neg (fun h=>by rcases h with h | h | h | ⟨h,_⟩<;>omega)] at hroot
    rw [hroot]
    simp only [hc,decide_false,Bool.not_false,Bool.true_and]
    rw [show b+(a.size+c.size+1)=b+a.size+c.size+1 by omega]
    cases isT a<;>cases isT c<;>rfl
noncomputable abbrev isPR (f:List Prt):=R51 M52 f
theorem prog_is_step (f:List Prt) (K:List (List Int)) (hK:K≠[]):IStep f K (fun n i=>isPR f n (.l0 (f.length:Nat) i K)):=by
 intro n i p ks hi hik h60 hp hks h4
 show T51 Ops.std _ f _ some _=_
 unfold T51
 simp only [qad,qak,qag,qaa,qao,qab,hp,hks]
 have hKl:0<K.length:=by cases K with
  | nil=>exact absurd rfl hK
  | cons=>simp
 rw [if_pos (by omega),if_pos (by omega),show IntKind.wrap IntKind.i64 ((i:Int)+1)=((i+1:Nat):Int) from qaf (by omega)]
 by_cases h7:p.1=7
 ·rw [if_pos h7,if_pos (.inl h7)]
 ·rw [if_neg h7]
  by_cases h11:p.1=11
  ·rw [if_pos h11,if_pos (.inr (.inl h11))]
  ·rw [if_neg h11]
   by_cases h12:p.1=12
   ·rw [if_pos h12,if_pos (.inr (.inr (.inl h12)))]
   ·rw [if_neg h12]
    by_cases hn:p.1=4
    ·obtain ⟨j,rfl,hj⟩:=h4 hn
     have hg:([(j:Int)]:List Int).getD (Int.toNat 0) (Ty.dflt (Ty.int IntKind.i64))=(j:Int):=rfl
     have hg2:([(j:Int)]:List Int).getD 0 0=(j:Int):=rfl
     rw [if_pos hn,if_neg (by omega),if_pos (by omega),if_pos (by simp),hg,hg2,qab,if_pos (by omega)]
     by_cases h3:(f.getD j (Ty.dflt ty66)).1=3
     ·rw [if_neg (fun h=>h h3),if_neg (by rintro (h | h | h | ⟨_,h⟩);exact h7 h;exact h11 h;exact h12 h;exact h h3)]
     ·rw [if_pos h3,if_pos (.inr (.inr (.inr ⟨hn,h3⟩)))]
    ·rw [if_neg hn,if_neg (by rintro (h | h | h | ⟨h,_⟩);exact h7 h;exact h11 h;exact h12 h;exact hn h)]
theorem qcc (f:List Prt) (hl:f.length<900000):∀ (t i n:Nat),i+t=f.length→t<n→isPR f n (.l0 (f.length:Nat) i [])=some false
 | t,i,0,hi,hn=>by omega
 | 0,i,n+1,hi,hn=>by
   show T51 Ops.std _ f _ some _=_
   unfold T51
   simp only [qad,qaa]
   rw [if_neg (by omega)]
   rfl
 | t+1,i,n+1,hi,hn=>by
   have ih:=qcc f hl t (i+1) n (by omega) (by omega)
   show T51 Ops.std _ f _ some _=_
   unfold T51
   simp only [qad,qak,qag,qaa,qao,qab,List.length_nil]
   rw [if_pos (by omega),if_pos (by omega),show IntKind.wrap IntKind.i64 ((i:Int)+1)=((i+1:Nat):Int) from qaf (by omega)]
   split
   ·rfl
   ·split
    ·rfl
    ·split
     ·rfl
     ·split
      ·rfl
      ·exact ih
section
variable {E:List Trm→Bool}
theorem kids_ne (t:Fm Trm) (b:Nat):t.kids b≠[]:=by
 intro h
 have h1:=t.kids_len b
 have h2:=t.size_pos
 rw [h] at h1
 simp at h1
 omega
theorem prog_is_yes {t:Fm Trm} (ht:t.wf E) (h60:t.size≤60) (hr:M95 t.flat=some true):M51 t.flat=some (isT t):=by
 show T51 Ops.std M52 t.flat (isPR t.flat 1000000) some none=_
 unfold T51
 rw [qbw E ht h60 hr,ob_s]
 have hl:=t.flat_len
 have:=is_tree (E:=E) (prog_is_step t.flat (t.kids 0) (kids_ne t 0)) (by omega) t ht 0 (At.all t) (1000000-t.size)
 rw [show 1000000-t.size+t.size=1000000 by omega] at this
 refine Eq.trans this ?_
 cases isT t with
 | false=>rfl
 | true=>
   simp only [if_true,Nat.zero_add]
   obtain ⟨m,hm⟩:∃ m,1000000-t.size=m+1:=⟨1000000-t.size-1,by omega⟩
   rw [hm]
   show T51 Ops.std _ _ _ some _=_
   unfold T51
   have hk:=t.kids_len 0
   have hsz:=t.size_pos
   simp only [qad,qaa]
   rw [if_neg (by omega)]
   simp only [Option.some.injEq,decide_eq_true_eq]
   omega
theorem prog_is_no (f:List Prt) (hl:f.length<900000) (hr:M95 f=some false):M51 f=some false:=by
 show T51 Ops.std M52 f (isPR f 1000000) some none=_
 unfold T51
 rw [prog_kids_no f hr,ob_s]
 exact qcc f hl f.length 0 1000000 (by omega) (by omega)
end
def shortP (p:Prt):Prop:=p.2.length≤30∧∀ t∈p.2,t.2.2.1.length≤8∧t.2.2.2.length≤8
def goodF (e:List Prt):Prop:=(∀ (r:List Prt) (d:Int),0≤d→rGo rightE (e++r) d=rGo rightE r (d+1))∧∀ p∈e,shortP p
theorem shortP.nil (k:Int):shortP (k,[]):=⟨by simp,by simp⟩
theorem badP_of {p:Prt} {d:Int} (h1:0≤opn p.1) (h2:opn p.1≤d) (h3:p.1=3→rightE p.2=true) (h4:p.1≠3→p.2=[]):badP rightE p d=false:=by
 unfold badP
 by_cases h:p.1=3
 ·rw [h] at h1 h2
  simp [h,h3 h];omega
 ·simp [h,h4 h];omega
theorem goodF.nul {p:Prt} (ho:opn p.1=0) (h3:p.1=3→rightE p.2=true) (h4:p.1≠3→p.2=[]) (hs:shortP p):goodF [p]:=by
 refine ⟨fun r d hd=>?_,by simpa using hs⟩
 simp only [List.cons_append,List.nil_append,rGo,badP_of (by omega) (by omega:opn p.1≤d) h3 h4,ho]
 simp
theorem goodF.un {e:List Prt} {k:Int} (he:goodF e) (ho:opn k=1):goodF (e++[(k,[])]):=by
 refine ⟨fun r d hd=>?_,fun p hp=>?_⟩
 ·rw [List.append_assoc,he.1 _ d hd]
  have hk:k≠3:=ne3 ho (by omega)
  have hb:badP rightE ((k,[]):Prt) (d+1)=false:=badP_of (p:=(k,[])) (by show 0≤opn k;omega) (by show opn k≤d+1;omega) (fun h=>absurd h hk) (fun _=>rfl)
  simp only [List.cons_append,List.nil_append,rGo,hb,ho]
  simp
 ·rcases List.mem_append.1 hp with h | h
  ·exact he.2 p h
  ·simp at h;subst h;exact shortP.nil k
theorem goodF.bi {e e2:List Prt} {k:Int} (he:goodF e) (he2:goodF e2) (ho:opn k=2):goodF (e++e2++[(k,[])]):=by
 refine ⟨fun r d hd=>?_,fun p hp=>?_⟩
 ·rw [List.append_assoc,List.append_assoc,he.1 _ d hd,he2.1 _ (d+1) (by omega)]
  have hk:k≠3:=ne3 ho (by omega)
  have hb:badP rightE ((k,[]):Prt) (d+1+1)=false:=badP_of (p:=(k,[])) (by show 0≤opn k;omega) (by show opn k≤d+1+1;omega) (fun h=>absurd h hk) (fun _=>rfl)
  simp only [List.cons_append,List.nil_append,rGo,hb,ho]
  simp;congr 1;omega
 ·rcases List.mem_append.1 hp with h | h
  ·rcases List.mem_append.1 h with h | h
   ·exact he.2 p h
   ·exact he2.2 p h
  ·simp at h;subst h;exact shortP.nil k
theorem goodF.right {e:List Prt} (h:goodF e) (hl:e.length≤60):rightF rightE e=true:=by
 have:=h.1 [] 0 (by omega)
 rw [List.append_nil] at this
 unfold rightF
 rw [this]
 simp [rGo,hl]
theorem eGo_may:∀ (e:List Trm) (d n:Int),eGo e d=some n→∀ t∈e,mayT t=true
 | [],d,n,h,t,ht=>by simp at ht
 | p::r,d,n,h,t,ht=>by
   simp only [eGo] at h
   split at h
   ·cases h
   ·rename_i hc
    simp only [Bool.or_eq_true,Bool.not_eq_true',not_or,Bool.not_eq_false] at hc
    rcases List.mem_cons.1 ht with rfl | ht
    ·exact hc.1
    ·exact eGo_may r _ n h t ht
theorem qea {w:List UInt8} (h:isWordP w=true):w.length≤8:=by
 cases w with
 | nil=>simp
 | cons b r=>
   simp only [isWordP,Bool.and_eq_true,decide_eq_true_eq] at h
   simpa using h.2
theorem may_len {t:Trm} (h:mayT t=true):t.2.2.1.length≤8∧t.2.2.2.length≤8:=by
 unfold mayT at h
 split at h
 ·simp only [Bool.and_eq_true,beq_iff_eq] at h
  rw [h.1.2,h.2];simp
 ·split at h
  ·simp only [Bool.and_eq_true,beq_iff_eq] at h
   rw [h.2];exact ⟨qea h.1.2,by simp⟩
  ·split at h
   ·simp only [Bool.and_eq_true] at h
    exact ⟨qea h.1.2,qea h.2⟩
   ·simp only [Bool.and_eq_true,beq_iff_eq] at h
    rw [h.1.2,h.2];simp
theorem qd0 {e:List Trm} (h:rightE e=true):e.length≤30∧∀ t∈e,t.2.2.1.length≤8∧t.2.2.2.length≤8:=by
 unfold rightE fin30 at h
 cases hg:eGo e 0 with
 | none=>rw [hg] at h;cases h
 | some d=>
   rw [hg] at h
   simp only [Bool.and_eq_true,decide_eq_true_eq] at h
   exact ⟨h.2,fun t ht=>may_len (eGo_may e 0 d hg t ht)⟩
noncomputable abbrev flR (d:Nat):=R83 (Rec83 d).2 (Rec83 d).1 M142
noncomputable abbrev fuR (d:Nat):=R141 M175 (Rec83 d).2 (Rec83 d).1 M176 M177 M84
section
variable {l:List Tok}
end
theorem pickN (x:Int) (n:Nat) (h0:0<n) (h1:n<1000000):∃ k:Nat,k<n∧M29 x (n:Nat)=some (k:Int):=by
 show ∃ k:Nat,k<n∧T29 Ops.std x (n:Nat) some=_
 unfold T29
 simp only [qak,qad,qaa]
 rw [if_neg (by omega)]
 have h2:=Int.tmod_lt_of_pos x (show (0:Int)<(n:Nat) by omega)
 have h3:=Int.lt_tmod_of_pos x (show (0:Int)<(n:Nat) by omega)
 generalize Int.tmod x (n:Nat)=q at h2 h3 ⊢
 by_cases hq:q<0
 ·refine ⟨(q+n).toNat,by omega,?_⟩
  rw [if_pos hq,wrap64 (by omega) (by omega)]
  congr 1;omega
 ·refine ⟨q.toNat,by omega,?_⟩
  rw [if_neg hq]
  congr 1;omega
theorem qcq (l:List Int) (pl:Nat) (a:Nat) (ha:a≤1000) (n:Nat) (h0:0<n) (h1:n<1000):∃ (k a':Nat),k<n∧a≤a'∧a'≤a+1∧M94 (n:Nat) l (a:Nat)=some ((k:Int),l,(a':Int)):=by
 show ∃ (k a':Nat),k<n∧a≤a'∧a'≤a+1∧T94 Ops.std M29 (n:Nat) l (a:Nat) some=_
 unfold T94
 simp only [qak,qag,qaa]
 by_cases hl:(l.length:Int)=0
 ·rw [if_pos hl]
  exact ⟨0,a,h0,Nat.le_refl _,by omega,rfl⟩
 ·have hw:IntKind.wrap IntKind.i64 ((a:Int)+1)=((a+1:Nat):Int):=qaf (by omega)
  rw [if_neg hl,if_neg hl,hw]
  have ht:Int.tmod ((a+1:Nat):Int) (l.length:Nat)=(((a+1) % l.length:Nat):Int):=by rw [←Int.ofNat_tmod]
  have hd:Int.tdiv ((a+1:Nat):Int) (l.length:Nat)=(((a+1) / l.length:Nat):Int):=by rw [←Int.ofNat_tdiv]
  rw [ht,hd]
  have hlp:0<l.length:=by omega
  have hm:=Nat.mod_lt (a+1) hlp
  have hq:(a+1) / l.length≤a+1:=Nat.div_le_self _ _
  generalize (a+1) / l.length=q at hq ⊢
  generalize (a+1) % l.length=m at hm ⊢
  rw [if_pos (by omega),if_neg hl,wrap64 (n:=(q:Int)) (by omega) (by omega),wrap64 (n:=1+(q:Int)) (by omega) (by omega),if_neg (by omega)]
  obtain ⟨k,hk,hp⟩:=pickN (IntKind.wrap IntKind.i64 (Int.tdiv (l.getD (Int.toNat (m:Int)) (Ty.dflt ty3)) (1+(q:Int)))) n h0 (by omega)
  rw [hp,ob_s]
  exact ⟨k,a+1,hk,by omega,by omega,rfl⟩
def fB:Nat→Nat
 | 0=>20
 | h+1=>2*fB h+20
def fA:Nat→Nat
 | 0=>3
 | h+1=>2*fA h+3
theorem fB_le:∀ h,h≤3→fB h≤300∧fA h≤45:=by
 intro h hh
 match h with
 | 0 | 1 | 2 | 3=>decide
def FOk (l:List Int) (o:Option (List UInt8×List Int×Int)) (a b c:Nat):Prop:=∃ (s:List UInt8) (a':Nat),o=some (s,l,(a':Int))∧s.length≤b∧a≤a'∧a'≤a+c
theorem qar {l:List (List UInt8)} {n:Nat} (h:l.all (fun x=>decide (x.length≤n))=true) (k:Nat):(l.getD k []).length≤n:=by
 rw [List.getD_eq_getElem?_getD]
 cases hk:l[k]? with
 | none=>simp
 | some x=>
   rw [List.all_eq_true] at h
   simpa using h x (List.mem_of_getElem? hk)
theorem FOk.mono {l:List Int} {o:Option (List UInt8×List Int×Int)} {a b c b' c':Nat} (h:FOk l o a b c) (hb:b≤b') (hc:c≤c'):FOk l o a b' c':=by
 obtain ⟨s,a',e1,e2,e3,e4⟩:=h
 exact ⟨s,a',e1,by omega,e3,by omega⟩
theorem opn0 {k:Int} (h:opn k=0):k=1∨k=2∨k=3:=by
 unfold opn at h
 split at h
 ·assumption
 ·split at h
  ·simp at h
  ·split at h<;>simp at h
theorem opn1 {k:Int} (h:opn k=1):k=4∨k=8∨k=11∨k=12:=by
 unfold opn at h
 split at h
 ·simp at h
 ·split at h
  ·assumption
  ·split at h<;>simp at h
theorem opn2 {k:Int} (h:opn k=2):k=5∨k=6∨k=7∨k=9∨k=10:=by
 unfold opn at h
 split at h
 ·simp at h
 ·split at h
  ·simp at h
  ·split at h
   ·assumption
   ·simp at h
section
variable {E:List Trm→Bool}
theorem nnfT_wf {t:Fm Trm}:t.wf E→∀ no,(nnfT t no).wf E:=by
 induction t with
 | nul p=>
   intro h no
   obtain ⟨h1,h2,h3⟩:=h
   simp only [nnfT]
   by_cases hk:p.1=3
   ·rw [if_pos hk]
    cases no with
    | true=>exact ⟨rfl,rfl,h1,h2,h3⟩
    | false=>exact ⟨h1,h2,h3⟩
   ·rw [if_neg hk]
    have:=opn0 h1
    have hc:sgn p.1 no=1∨sgn p.1 no=2:=by
     unfold sgn otherK
     cases no<;>rcases this with h | h | h<;>simp [h] at hk ⊢
    refine ⟨?_,fun h=>?_,fun _=>rfl⟩
    ·rcases hc with h | h<;>(show opn (sgn p.1 no)=0)<;>rw [h]<;>rfl
    ·have h:sgn p.1 no=3:=h
     omega
 | un p a ih=>
   intro h no
   obtain ⟨h1,h2,h3⟩:=h
   have hk:=opn1 h1
   simp only [nnfT]
   split
   ·exact ih h3 _
   ·split
    ·cases no<;>exact ⟨rfl,rfl,⟨rfl,fun h=>(by cases h),fun _=>rfl⟩,ih h3 _⟩
    ·split
     ·cases no<;>exact ⟨rfl,rfl,⟨rfl,fun h=>(by cases h),fun _=>rfl⟩,ih h3 _⟩
     ·have h8:p.1=8:=by omega
      rw [h8]
      cases no<;>exact ⟨rfl,rfl,ih h3 _⟩
 | bi p a b iha ihb=>
   intro h no
   obtain ⟨h1,h2,h3,h4⟩:=h
   have hk:=opn2 h1
   simp only [nnfT]
   split
   ·cases no<;>exact ⟨rfl,rfl,iha h3 _,ihb h4 _⟩
   ·rename_i h7
    have:p.1=5∨p.1=6∨p.1=9∨p.1=10:=by omega
    rcases this with h | h | h | h<;>rw [h]<;>cases no<;>exact ⟨rfl,rfl,iha h3 _,ihb h4 _⟩
theorem nnfT_is {t:Fm Trm}:t.wf E→∀ no,isT (nnfT t no)=true:=by
 induction t with
 | nul p=>
   intro h no
   simp only [nnfT]
   by_cases hk:p.1=3
   ·rw [if_pos hk]
    cases no<;>simp [isT,Fm.root,hk]
   ·rw [if_neg hk];rfl
 | un p a ih=>
   intro h no
   obtain ⟨h1,h2,h3⟩:=h
   have hk:=opn1 h1
   simp only [nnfT]
   split
   ·exact ih h3 _
   ·split
    ·cases no<;>simp [isT,ih h3,sgn,otherK]
    ·split
     ·cases no<;>simp [isT,ih h3,sgn,otherK]
     ·have h8:p.1=8:=by omega
      rw [h8]
      cases no<;>simp [isT,ih h3,sgn,otherK]
 | bi p a b iha ihb=>
   intro h no
   obtain ⟨h1,h2,h3,h4⟩:=h
   have hk:=opn2 h1
   simp only [nnfT]
   split
   ·cases no<;>simp [isT,iha h3,ihb h4,sgn,otherK]
   ·rename_i h7
    have:p.1=5∨p.1=6∨p.1=9∨p.1=10:=by omega
    rcases this with h | h | h | h<;>rw [h]<;>cases no<;>simp [isT,iha h3,ihb h4,sgn,otherK]
end
abbrev WF (t:Fm Trm):Prop:=t.wf rightE
theorem wf_short {t:Fm Trm}:WF t→∀ p∈t.flat,shortP p:=by
 induction t with
 | nul p=>
   intro h q hq
   simp only [Fm.flat,List.mem_singleton] at hq
   subst hq
   by_cases hk:q.1=3
   ·exact qd0 (h.2.1 hk)
   ·have:=h.2.2 hk
    exact ⟨by rw [this];simp,by rw [this];simp⟩
 | un p a ih=>
   intro h q hq
   simp only [Fm.flat,List.mem_append,List.mem_singleton] at hq
   rcases hq with hq | rfl
   ·exact ih h.2.2 q hq
   ·have:=h.2.1
    exact ⟨by rw [this];simp,by rw [this];simp⟩
 | bi p a b iha ihb=>
   intro h q hq
   simp only [Fm.flat,List.mem_append,List.mem_singleton] at hq
   rcases hq with (hq | hq) | rfl
   ·exact iha h.2.2.1 q hq
   ·exact ihb h.2.2.2 q hq
   ·have:=h.2.1
    exact ⟨by rw [this];simp,by rw [this];simp⟩
theorem qex {f:List Prt} (hl:f.length<900000) (h:∀ p∈f,shortP p):smallF f:=⟨hl,fun p hp=>by have:=(h p hp).1;omega⟩
theorem qb1 {f:List Prt} (hl:f.length<900000) (h:∀ p∈f,shortP p):M95 f=some (rightF rightE f):=
 right_prog rightE f (fun p hp=>qev p.2 (by have:=(h p hp).1;omega)) (qex hl h)
theorem qcd {f:List Prt} (hl:f.length<900000) (h:∀ p∈f,shortP p):M63 f=some (rightF rightE f):=
 right_ref rightE f (fun p hp=>by
  obtain ⟨h1,h2⟩:=h p hp
  exact qfo p.2 ⟨by omega,fun t ht=>by have:=h2 t ht;omega⟩ (by omega)) (qex hl h)
section
variable {t:Fm Trm} (ht:WF t) (h60:t.size≤60)
theorem qc2 (ht:WF t) (h60:t.size≤60):M95 t.flat=some true:=by
 rw [qb1 (by rw [t.flat_len];omega) (wf_short ht),qeu rightE ht h60]
theorem qeb (ht:WF t) (h60:t.size≤60):M63 t.flat=some true:=by
 rw [qcd (by rw [t.flat_len];omega) (wf_short ht),qeu rightE ht h60]
theorem T_NnfR (ht:WF t) (h60:t.size≤60):M13 t.flat=some (nnfL t false):=by
 rw [ref_Nnf,qcl ht h60 (qeb ht h60)]
theorem T_NegateR (ht:WF t) (h60:t.size≤60):M16 t.flat=some (nnfL t true):=by
 rw [qfq,qcl ht h60 (qeb ht h60)]
theorem T_IsP (ht:WF t) (h60:t.size≤60):M51 t.flat=some (isT t):=prog_is_yes ht h60 (qc2 ht h60)
end
theorem N_rightP {f:List Prt} (hl:f.length<900000) (h:∀ p∈f,shortP p) (hr:rightF rightE f=false):M95 f=some false:=by
 rw [qb1 hl h,hr]
theorem N_rightR {f:List Prt} (hl:f.length<900000) (h:∀ p∈f,shortP p) (hr:rightF rightE f=false):M63 f=some false:=by
 rw [qcd hl h,hr]
theorem N_NnfR {f:List Prt} (hl:f.length<900000) (h:∀ p∈f,shortP p) (hr:rightF rightE f=false):M13 f=some []∧M16 f=some []:=
 ⟨by rw [ref_Nnf,qc1 f (N_rightR hl h hr)],by rw [qfq,qc1 f (N_rightR hl h hr)]⟩
theorem N_IsP {f:List Prt} (hl:f.length<900000) (h:∀ p∈f,shortP p) (hr:rightF rightE f=false):M51 f=some false:=prog_is_no f hl (N_rightP hl h hr)
def Tells (o:Option Bool) (p:Prop):Prop:=∃ b,o=some b∧(b=true↔p)
section
variable {e e':List Trm}
end
section
variable {f g:List Prt}
end
def isC (k:Int) (t:Fm Trm):Prop:=t.size=1∧t.root.1=k
instance (k:Int) (t:Fm Trm):Decidable (isC k t):=by unfold isC;exact inferInstance
section
variable {E:List Trm→Bool}
end
def Fm.post {A:Type} (val:Fm Trm→A):Fm Trm→List A
 | .nul p=>[val (.nul p)]
 | .un p a=>a.post val++[val (.un p a)]
 | .bi p a c=>a.post val++c.post val++[val (.bi p a c)]
theorem post_len {A:Type} (val:Fm Trm→A) (t:Fm Trm):(t.post val).length=t.size:=by
 induction t with
 | nul=>rfl
 | un p a ih=>simp [Fm.post,Fm.size,ih]
 | bi p a c iha ihc=>simp [Fm.post,Fm.size,iha,ihc];omega
theorem post_last {A:Type} (val:Fm Trm→A) (t:Fm Trm):∃ l,t.post val=l++[val t]:=by
 cases t with
 | nul p=>exact ⟨[],rfl⟩
 | un p a=>exact ⟨_,rfl⟩
 | bi p a c=>exact ⟨_,rfl⟩
theorem qcj {A:Type} (val:Fm Trm→A) (d:A) (t:Fm Trm) (pre q:List A):(pre++t.post val++q).getD (pre.length+t.size-1) d=val t:=by
 obtain ⟨l,hl⟩:=post_last val t
 have hlen:=post_len val t
 rw [hl] at hlen ⊢
 simp only [List.length_append,List.length_cons,List.length_nil] at hlen
 rw [show pre++(l++[val t])++q=(pre++l)++val t::q by simp,show pre.length+t.size-1=(pre++l).length by simp;omega]
 exact qbg _ _ _ _
section
variable {a b:Fm Trm} (ha:WF a) (hb:WF b) (sa:a.size≤60) (sb:b.size≤60)
end
def nodeAt (K:List (List Int)) (i:Nat) (at':Nat→Fm Trm→Prop):Fm Trm→Prop
 | .nul p=>K.getD i (Ty.dflt ty22)=[]
 | .un p a=>∃ x:Nat,x<i∧K.getD i (Ty.dflt ty22)=[(x:Int)]∧at' x a
 | .bi p a c=>∃ x y:Nat,x<i∧y<i∧K.getD i (Ty.dflt ty22)=[(x:Int),(y:Int)]∧at' x a∧at' y c
theorem nodeAt.mono {K:List (List Int)} {i:Nat} {P Q:Nat→Fm Trm→Prop} (h:∀ j u,P j u→Q j u):∀ {u:Fm Trm},nodeAt K i P u→nodeAt K i Q u
 | .nul p,hu=>hu
 | .un p a,⟨x,h1,h2,h3⟩=>⟨x,h1,h2,h _ _ h3⟩
 | .bi p a c,⟨x,y,h1,h2,h3,h4,h5⟩=>⟨x,y,h1,h2,h3,h _ _ h4,h _ _ h5⟩
def atP (t:Fm Trm) (b j:Nat) (u:Fm Trm):Prop:=∀ {A:Type} (val:Fm Trm→A) (d:A) (pre q:List A),pre.length=b→(pre++t.post val++q).getD j d=val u
theorem node_at {E:List Trm→Bool} {f:List Prt} {K:List (List Int)} (Ok:Fm Trm→Prop) (hun:∀ p a,Ok (.un p a)→Ok a) (hbi:∀ p a c,Ok (.bi p a c)→Ok a∧Ok c) :
  ∀ (t:Fm Trm),t.wf E→Ok t→∀ (b:Nat),At f K t b→∀ i,b≤i→i<b+t.size→
    ∃ u:Fm Trm,u.wf E∧Ok u∧f.getD i (Ty.dflt ty66)=u.root∧atP t b i u∧nodeAt K i (atP t b) u:=by
 intro t
 induction t with
 | nul p=>
   intro ht hok b hat i h1 h2
   simp only [Fm.size] at h2
   have e:i=b:=by omega
   subst e
   have hr:=hat.root (Ty.dflt ty66)
   have hk:=hat.last (Ty.dflt ty22)
   simp only [Fm.size,Fm.root,Fm.last,Nat.add_sub_cancel] at hr hk
   refine ⟨.nul p,ht,hok,hr,fun {A} val d pre q hp=>?_,hk⟩
   have:=qcj val d (.nul p) pre q
   rw [hp] at this
   simpa [Fm.size] using this
 | un p a ih=>
   intro ht hok b hat i h1 h2
   simp only [Fm.size] at h2
   have up:∀ j u,atP a b j u→atP (.un p a) b j u:=fun j u h=>fun {A} val d pre q hp=>by
    have:=h val d pre ([val (.un p a)]++q) hp
    simpa [Fm.post] using this
   have hsa:=a.size_pos
   by_cases hi:i<b+a.size
   ·obtain ⟨u,u1,u2,u3,u4,u5⟩:=ih ht.2.2 (hun _ _ hok) b hat.un i h1 hi
    exact ⟨u,u1,u2,u3,up _ _ u4,u5.mono up⟩
   ·have hr:=hat.root (Ty.dflt ty66)
    have hk:=hat.last (Ty.dflt ty22)
    have e:b+(Fm.un p a).size-1=b+a.size:=by simp only [Fm.size];omega
    rw [e] at hr hk
    have ei:i=b+a.size:=by omega
    subst ei
    refine ⟨.un p a,ht,hok,hr,fun {A} val d pre q hp=>?_,b+a.size-1,by omega,hk,up _ _ fun {A} val d pre q hp=>?_⟩
    ·have:=qcj val d (.un p a) pre q
     rw [hp,e] at this
     exact this
    ·have:=qcj val d a pre q
     rw [hp] at this
     exact this
 | bi p a c iha ihc=>
   intro ht hok b hat i h1 h2
   simp only [Fm.size] at h2
   obtain ⟨oka,okc⟩:=hbi _ _ _ hok
   have hsa:=a.size_pos
   have hsc:=c.size_pos
   have up1:∀ j u,atP a b j u→atP (.bi p a c) b j u:=fun j u h=>fun {A} val d pre q hp=>by
    have:=h val d pre (c.post val++[val (.bi p a c)]++q) hp
    simpa [Fm.post] using this
   have up2:∀ j u,atP c (b+a.size) j u→atP (.bi p a c) b j u:=fun j u h=>fun {A} val d pre q hp=>by
    have:=h val d (pre++a.post val) ([val (.bi p a c)]++q) (by simp [post_len,hp])
    simpa [Fm.post] using this
   by_cases hi:i<b+a.size
   ·obtain ⟨u,u1,u2,u3,u4,u5⟩:=iha ht.2.2.1 oka b hat.bi1 i h1 hi
    exact ⟨u,u1,u2,u3,up1 _ _ u4,u5.mono up1⟩
   ·by_cases hi2:i<b+a.size+c.size
    ·obtain ⟨u,u1,u2,u3,u4,u5⟩:=ihc ht.2.2.2 okc (b+a.size) hat.bi2 i (by omega) hi2
     exact ⟨u,u1,u2,u3,up2 _ _ u4,u5.mono up2⟩
    ·have hr:=hat.root (Ty.dflt ty66)
     have hk:=hat.last (Ty.dflt ty22)
     have e:b+(Fm.bi p a c).size-1=b+a.size+c.size:=by simp only [Fm.size];omega
     rw [e] at hr hk
     have ei:i=b+a.size+c.size:=by omega
     subst ei
     refine ⟨.bi p a c,ht,hok,hr,fun {A} val d pre q hp=>?_,b+a.size-1,b+a.size+c.size-1,by omega,by omega,hk,up1 _ _ fun {A} val d pre q hp=>?_,up2 _ _ fun {A} val d pre q hp=>?_⟩
     ·have:=qcj val d (.bi p a c) pre q
      rw [hp,e] at this
      exact this
     ·have:=qcj val d a pre q
      rw [hp] at this
      exact this
     ·have:=qcj val d c pre q
      rw [hp] at this
      exact this
section
variable (n back:Nat)
def nx (i:Nat):Nat:=if i+1=n then back else i+1
def mono (g:Nat→Bool→Bool):Prop:=∀ i,g i false=true→g i true=true
theorem mono.imp {g:Nat→Bool→Bool} (h:mono g) {i:Nat} {x y:Bool} (hxy:x=true→y=true) (hg:g i x=true):g i y=true:=by
 cases x<;>cases y
 ·exact hg
 ·exact h i hg
 ·exact absurd (hxy rfl) (by simp)
 ·exact hg
variable {n back}
def post (n back:Nat) (g:Nat→Bool→Bool) (o:Nat→Bool):Prop:=∀ i,i<n→o i=true→g i (o (nx n back i))=true
section
variable {g:Nat→Bool→Bool} (hg:mono g) (hb:back<n)
end
section
variable {g:Nat→Bool→Bool} (hg:mono g) (hb:back<n)
include hg hb
end
end
section
variable (n back:Nat) (V:List Trm→Nat→Bool)
def sg (no:Bool) (o:Nat→Bool):Nat→Bool:=fun i=>if no then !o i else o i
end
section
variable (op:Int) (a b:List Bool) (n back:Nat) (hb:back<n) (hn:n≤100)
def ini (op:Int):Bool:=decide (op=10∨op=12∨op=1)
end
section
variable {n back:Nat} (hb:back<n)
variable (V:List Trm→Nat→Bool)
end
end Go.Proofs.YtccnmhdgghjgoaaGreatDoor.Av
