/- The plain law of ExprLaws: what its twin computes answers true. Conditions: none. -/
import Derived.Test.YtkmpkebaloejhaaDoorEw2
import Derived.Test.YtkmpkebaloejhaaDoorRead
import Derived.KernelRfl
set_option linter.unusedSimpArgs false
set_option linter.unusedVariables false
set_option maxRecDepth 100000
namespace Go.Proofs.YtkmpkebaloejhaaDoor.Av
open Go
theorem qah (a b:Int):Ops.lt Ops.std a b=decide (a<b):=rfl
theorem qan (a b:Int):Ops.eq Ops.std a b=decide (a=b):=rfl
theorem qbc (n b:Nat):Ops.lim Ops.std n b=decide (n*b≤140737488355328):=rfl
theorem qa1 (a b:Int):Ops.le Ops.std a b=decide (a≤b):=by
 simp only [Ops.le,qah]
 by_cases h:a≤b
 ·have:¬ b<a:=by omega
  simp [h,this]
 ·have:b<a:=by omega
  simp [h,this]
theorem qak (j:Int) (n:Nat):Ops.inb Ops.std j n=decide (0≤j∧j<(n:Int)):=by
 simp only [Ops.inb,qah]
 by_cases h:j<0
 ·have:¬ (0≤j∧j<(n:Int)):=by omega
  simp [h,this]
 ·by_cases h2:j<(n:Int)
  ·have:(0≤j∧j<(n:Int)):=by omega
   simp [h,h2,this]
  ·have:¬ (0≤j∧j<(n:Int)):=by omega
   simp [h,h2,this]
theorem qaa {α:Type} (p:Prop) [Decidable p] (x y:α):cond (decide p) x y=if p then x else y:=by by_cases h:p<;>simp [h]
theorem qbd (p:Prop) [Decidable p]:(!decide p)=decide (¬ p):=by by_cases h:p<;>simp [h]
theorem ob_s {α R:Type} (a:α) (f:α→Option R):ob (some a) f=f a:=rfl
theorem cond_t {α:Type} (x y:α):cond true x y=x:=rfl
theorem cond_f {α:Type} (x y:α):cond false x y=y:=rfl
theorem wrap64 {n:Int} (h1:-9223372036854775808≤n) (h2:n≤9223372036854775807):IntKind.wrap IntKind.i64 n=n:=wrap_id h1 h2
theorem qab (n:Nat):Int.toNat (Nat.cast n)=n:=Int.toNat_natCast n
theorem ite_dec {α:Type} (p:Prop) [Decidable p] (x y:α):(bif decide p then x else y)=if p then x else y:=qaa p x y
theorem qbt {α:Type} (l:List α) (x:α) (r:List α) (d:α):(l++x::r).getD l.length d=x:=by
 rw [List.getD_eq_getElem?_getD,List.getElem?_append_right (Nat.le_refl _)];simp
theorem qa3 {α:Type} {s:List α} {n:Nat} (d:α) (h:n<s.length):s.drop n=s.getD n d::s.drop (n+1):=by
 rw [List.drop_eq_getElem_cons h]
 congr 1
 simp [List.getD_eq_getElem?_getD,List.getElem?_eq_getElem h]
def digitP' (b:UInt8):Bool:=decide (48≤b.toNat) && decide (b.toNat≤57)
def lowerP (b:UInt8):Bool:=(decide (97≤b.toNat) && decide (b.toNat≤122)) || decide (b.toNat=95)
def wordP (b:UInt8):Bool:=lowerP b || digitP' b
def isWordP:List UInt8→Bool
 | []=>false
 | b::r=>lowerP b && r.all wordP && decide (r.length+1≤8)
theorem qcg (b:UInt8):M105 (b.toNat:Int)=some (lowerP b):=by
 show T105 Ops.std _ some=_
 unfold T105 lowerP
 simp only [qa1,qan,qaa]
 have e1:((97:Int)≤(b.toNat:Int))↔97≤b.toNat:=by omega
 have e2:((b.toNat:Int)≤(122:Int))↔b.toNat≤122:=by omega
 have e3:((b.toNat:Int)=(95:Int))↔b.toNat=95:=by omega
 simp only [e1,e2,e3]
 by_cases h1:97≤b.toNat<;>by_cases h2:b.toNat≤122<;>by_cases h3:b.toNat=95<;>simp [h1,h2,h3]
theorem qda (b:UInt8):M102 (b.toNat:Int)=some (digitP' b):=by
 show T102 Ops.std _ some=_
 unfold T102 digitP'
 simp only [qa1,qan,qaa]
 have e1:((48:Int)≤(b.toNat:Int))↔48≤b.toNat:=by omega
 have e2:((b.toNat:Int)≤(57:Int))↔b.toNat≤57:=by omega
 simp only [e1,e2]
 by_cases h1:48≤b.toNat<;>by_cases h2:b.toNat≤57<;>simp [h1,h2]
theorem lower_ref (b:UInt8):M60 (b.toNat:Int)=some (lowerP b):=by
 show T60 Ops.std _ some=_
 unfold T60 lowerP
 simp only [qa1,qan,qaa]
 have e1:((97:Int)≤(b.toNat:Int))↔97≤b.toNat:=by omega
 have e2:((b.toNat:Int)≤(122:Int))↔b.toNat≤122:=by omega
 have e3:((b.toNat:Int)=(95:Int))↔b.toNat=95:=by omega
 simp only [e1,e2,e3]
 by_cases h1:97≤b.toNat<;>by_cases h2:b.toNat≤122<;>by_cases h3:b.toNat=95<;>simp [h1,h2,h3]
theorem digit_ref (b:UInt8):M59 (b.toNat:Int)=some (digitP' b):=by
 show T59 Ops.std _ some=_
 unfold T59 digitP'
 simp only [qa1,qan,qaa]
 have e1:((48:Int)≤(b.toNat:Int))↔48≤b.toNat:=by omega
 have e2:((b.toNat:Int)≤(57:Int))↔b.toNat≤57:=by omega
 simp only [e1,e2]
 by_cases h1:48≤b.toNat<;>by_cases h2:b.toNat≤57<;>simp [h1,h2]
theorem within_prog (b:UInt8):M106 (b.toNat:Int)=some (wordP b):=by
 show T106 Ops.std M105 M102 _ some=_
 unfold T106 wordP
 rw [qcg,qda]
 simp only [ob_s]
 cases lowerP b<;>rfl
theorem run_prog {p:UInt8→Bool} {c:Int→Option Bool} (hc:∀ b:UInt8,c (b.toNat:Int)=some (p b)) (s:List UInt8) (hs:s.length<900000):F103 c s=some (s.takeWhile p):=by
 have h:∀ (t i n:Nat),i+t=s.length→t<n→R103 c s n (.l0 i)=some (s.take i++(s.drop i).takeWhile p):=by
  intro t
  induction t with
  | zero=>
    intro i n hi hn
    cases n with
    | zero=>omega
    | succ n=>
      show T103 Ops.std c s _ some _=_
      unfold T103
      simp only [qah,qak,qaa,qab]
      rw [if_neg (by omega),if_pos (by omega),List.drop_eq_nil_of_le (show s.length≤i by omega)]
      simp
  | succ t ih=>
    intro i n hi hn
    cases n with
    | zero=>omega
    | succ n=>
      have hlt:i<s.length:=by omega
      show T103 Ops.std c s _ some _=_
      unfold T103
      have hw:IntKind.wrap IntKind.i64 ((i:Int)+1)=((i+1:Nat):Int):=qai (by omega)
      simp only [qah,qak,qaa,qab]
      rw [if_pos (by omega),if_pos (by omega),hc,ob_s,qco hlt]
      cases hp:p (s.getD i 0) with
      | true=>
        simp only [cond_true]
        rw [hw,ih (i+1) n (by omega) (by omega),List.takeWhile_cons_of_pos hp]
        have:s.take (i+1)=s.take i++[s.getD i 0]:=by
         rw [List.take_add_one]
         simp [List.getD_eq_getElem?_getD,List.getElem?_eq_getElem hlt]
        rw [this]
        simp
      | false=>
        simp only [cond_false]
        rw [if_pos (by omega),List.takeWhile_cons_of_neg (by rw [hp];decide)]
        simp
 show T103 Ops.std c s _ some none=_
 unfold T103
 have:=h s.length 0 1000000 (by omega) (by omega)
 rw [List.take_zero,List.drop_zero,List.nil_append] at this
 exact this
theorem runW_prog (s:List UInt8) (hs:s.length<900000):M103 s=some (s.takeWhile wordP):=run_prog within_prog s hs
theorem qbw {α:Type} (p:α→Bool):∀ l:List α,l.takeWhile p=l↔l.all p=true
 | []=>by simp
 | a::l=>by
   rw [List.takeWhile_cons,List.all_cons]
   cases hp:p a with
   | true=>simp [qbw p l]
   | false=>simp
theorem qdb {b:UInt8} (h:lowerP b=true):wordP b=true:=by unfold wordP;rw [h];rfl
theorem isWord_prog (s:List UInt8):M95 s=some (isWordP s):=by
 unfold M95 F95 T95
 cases s with
 | nil=>rfl
 | cons b r=>
   simp only [qa1,qak,qaa,isWordP,List.length_cons]
   have e1:(!(b::r) == ([]:List UInt8))=true:=rfl
   rw [e1,cond_t]
   by_cases h8:r.length+1≤8
   ·rw [if_pos (by omega),if_pos (by omega),show (b::r).getD (Int.toNat 0) 0=b from rfl,qcg,ob_s]
    cases hl:lowerP b with
    | false=>simp
    | true=>
      simp only [cond_true]
      rw [runW_prog _ (by simp;omega),ob_s]
      have hb:=qdb hl
      simp only [Bool.true_and,h8,decide_true,Bool.and_true,Option.some.injEq]
      rw [Bool.eq_iff_iff,beq_iff_eq,qbw,List.all_cons,hb,Bool.true_and]
   ·rw [if_neg (by omega)]
    simp [h8]
theorem qb6 (s:List UInt8) (hs:s.length≤9223372036854775807):∀ (t i n:Nat),i+t=s.length→t<n→
  R79 M60 M59 s n (.l0 i)=some ((bif i == 0 then (match s with | []=>true | b::r=>lowerP b && r.all wordP) else (s.drop i).all wordP) && (decide (1≤s.length) && decide (s.length≤8)))
 | t,i,0,hi,hn=>by omega
 | 0,i,n+1,hi,hn=>by
   show T79 Ops.std _ _ s _ some _=_
   unfold T79
   simp only [qah,qa1,qaa]
   rw [if_neg (by omega),List.drop_eq_nil_of_le (show s.length≤i by omega)]
   cases s with
   | nil=>simp
   | cons b r=>
     have:(i == 0)=false:=by simp at hi;simp;omega
     rw [this,if_pos (by simp;omega)]
     simp
     constructor<;>intro h<;>omega
 | t+1,i,n+1,hi,hn=>by
   have hlt:i<s.length:=by omega
   have ih:=qb6 s hs t (i+1) n (by omega) (by omega)
   have hw:IntKind.wrap IntKind.i64 ((i:Int)+1)=((i+1:Nat):Int):=qai (by omega)
   have hi1:(i+1 == 0)=false:=rfl
   rw [hi1,cond_f] at ih
   show T79 Ops.std _ _ s _ some _=_
   unfold T79
   simp only [qah,qa1,qan,qak,qaa,qab]
   rw [if_pos (by omega),if_pos (by omega),lower_ref,ob_s,hw]
   have hd:s.drop i=s.getD i 0::s.drop (i+1):=qco hlt
   by_cases h0:i=0
   ·subst h0
    cases s with
    | nil=>simp at hlt
    | cons b r=>
      simp only [List.getD_cons_zero,beq_self_eq_true,cond_true]
      cases hb:lowerP b with
      | false=>simp
      | true=>
        simp only [Bool.not_true,cond_false,Bool.true_and]
        exact ih
   ·have hb0:(i == 0)=false:=by simp [h0]
    rw [hb0,cond_f,hd,List.all_cons]
    unfold wordP
    cases hb:lowerP (s.getD i 0) with
    | true=>
      simp only [Bool.not_true,cond_false,Bool.true_or,Bool.true_and]
      exact ih
    | false=>
      simp only [Bool.not_false,cond_true,Bool.false_or]
      rw [if_neg (by omega),if_pos (by omega),digit_ref,ob_s]
      cases hdg:digitP' (s.getD i 0) with
      | true=>simp only [Bool.not_true,cond_false,Bool.true_and];exact ih
      | false=>simp
theorem qev (s:List UInt8) (hs:s.length<900000):M79 s=some (isWordP s):=by
 show T79 Ops.std M60 M59 s (R79 M60 M59 s _) some none=_
 unfold T79
 refine (qb6 s (by omega) s.length 0 _ (by omega) (by omega)).trans ?_
 cases s with
 | nil=>rfl
 | cons b r=>simp [isWordP]
abbrev Tok:=Int×List UInt8×Int×Int
def blankP (b:UInt8):Bool:=decide (b.toNat=32) || (decide (b.toNat=9) || decide (b.toNat=10))
def letterP (b:UInt8):Bool:=decide (b.toNat=88) || (decide (b.toNat=70) || (decide (b.toNat=71) || (decide (b.toNat=85) || decide (b.toNat=82))))
def valW (w:List UInt8):Int:=w.foldl (fun n b=>10*n+((b.toNat:Int)-48)) 0
def twos:List (List UInt8):=[[60,61],[62,61],[61,61],[33,61],[38,38],[124,124],[45,62]]
def ones:List UInt8:=[40,41,91,93,43,45,42,60,62,33,64,59,61]
def signS (s:List UInt8):List UInt8:=
 match twos.find? (fun p=>decide (1<s.length) && (s.take 2 == p)) with
 | some p=>p
 | none=>match ones.find? (fun b=>s.take 1 == [b]) with
   | some b=>s.take 1
   | none=>[]
def tokS (s:List UInt8):Option (Int×List UInt8×Int):=
 match s with
 | []=>none
 | b::r=>if digitP' b then (if (s.takeWhile digitP').length≤3 then some (1,s.takeWhile digitP',valW (s.takeWhile digitP')) else none)
   else if lowerP b then (if (s.takeWhile wordP).length≤8 then some (2,s.takeWhile wordP,0) else none)
   else if letterP b then some (3,[b],0)
   else if signS s=[] then none else some (4,signS s,0)
def lexGo:Nat→List UInt8→Nat→List Tok→Int×Int×List Tok
 | 0,_,at_,_=>(2,(at_:Int),[])
 | _+1,[],at_,out=>(0,0,out++[((5,[],0,(at_:Int)):Tok)])
 | f+1,b::r,at_,out=>if blankP b then lexGo f r (at_+1) out else
   match tokS (b::r) with
   | none=>(2,(at_:Int),[])
   | some (k,w,n)=>lexGo f ((b::r).drop w.length) (at_+w.length) (out++[((k,w,n,(at_:Int)):Tok)])
def lexS (s:List UInt8):Int×Int×List Tok:=if 60000<s.length then (14,0,[]) else lexGo (s.length+1) s 0 []
theorem signS_len (s:List UInt8):(signS s).length≤2∧(signS s).length≤s.length∧s.take (signS s).length=signS s:=by
 unfold signS
 cases h:twos.find? (fun p=>decide (1<s.length) && (s.take 2 == p)) with
 | some p=>
   have h1:=List.find?_some h
   simp only [Bool.and_eq_true,decide_eq_true_eq,beq_iff_eq] at h1
   simp only []
   rw [←h1.2,List.length_take,Nat.min_eq_left (by omega)]
   exact ⟨by omega,by omega,rfl⟩
 | none=>
   simp only []
   cases h2:ones.find? (fun b=>s.take 1 == [b]) with
   | some b=>
     simp only [List.length_take]
     refine ⟨by omega,by omega,?_⟩
     cases s<;>simp
   | none=>simp
theorem tw_len {p:UInt8→Bool}:∀ (l:List UInt8),(l.takeWhile p).length≤l.length∧l.take (l.takeWhile p).length=l.takeWhile p
 | []=>by simp
 | a::l=>by
   rw [List.takeWhile_cons]
   cases hp:p a with
   | true=>have:=tw_len (p:=p) l;simp [this]
   | false=>simp
theorem valW_snoc (w:List UInt8) (b:UInt8):valW (w++[b])=10*valW w+((b.toNat:Int)-48):=by simp [valW,List.foldl_append]
theorem take_snoc (w:List UInt8) (n:Nat) (h:n<w.length):w.take (n+1)=w.take n++[w.getD n 0]:=by
 rw [List.take_add_one]
 simp [List.getD_eq_getElem?_getD,List.getElem?_eq_getElem h]
theorem wrap8 {n:Int} (h1:0≤n) (h2:n≤255):IntKind.wrap IntKind.u8 n=n:=by
 have e1:(2:Int) ^ IntKind.u8.bits=256:=by decide
 have e3:IntKind.u8.signed=false:=rfl
 simp only [IntKind.wrap,e1,e3,Bool.false_and,decide_eq_true_eq]
 simp
 omega
theorem qcp {b:UInt8} (h:digitP' b=true):48≤b.toNat∧b.toNat≤57:=by
 unfold digitP' at h
 simpa using h
theorem qew:∀ (n:Nat) (w:List UInt8),w.length=n→(∀ b∈w,digitP' b=true)→0≤valW w∧valW w<10 ^ n:=by
 intro n
 induction n with
 | zero=>intro w hw _;cases w with
   | nil=>simp [valW]
   | cons=>simp at hw
 | succ n ih=>
   intro w hw hd
   have hne:w≠[]:=by intro h;rw [h] at hw;simp at hw
   obtain ⟨l,b,rfl⟩:∃ l b,w=l++[b]:=⟨w.dropLast,w.getLast hne,(List.dropLast_concat_getLast hne).symm⟩
   have h1:=ih l (by simpa using hw) fun b hb=>hd b (by simp [hb])
   have h2:=qcp (hd b (by simp))
   rw [valW_snoc]
   have h3:(10:Int) ^ (n+1)=10*10 ^ n:=by rw [Int.pow_succ];omega
   rw [h3]
   generalize (10:Int) ^ n=q at h1 ⊢
   omega
theorem tw_all {p:UInt8→Bool}:∀ (l:List UInt8),∀ b∈l.takeWhile p,p b=true
 | [],b,h=>by simp at h
 | a::l,b,h=>by
   rw [List.takeWhile_cons] at h
   cases hp:p a with
   | false=>rw [hp] at h;simp at h
   | true=>
     rw [hp] at h
     simp only [if_true,List.mem_cons] at h
     rcases h with rfl | h
     ·exact hp
     ·exact tw_all (p:=p) l b h
section
variable (s:List UInt8) (hs:s.length≤60000)
end
theorem tok_len {s:List UInt8} {k n:Int} {w:List UInt8} (h:tokS s=some (k,w,n)):0<w.length∧w.length≤s.length∧s.take w.length=w∧k≠0∧k≠5:=by
 cases s with
 | nil=>simp [tokS] at h
 | cons b r=>
   simp only [tokS] at h
   split at h
   ·rename_i hd
    split at h
    ·simp only [Option.some.injEq,Prod.mk.injEq] at h
     obtain ⟨rfl,rfl,rfl⟩:=h
     have h1:=tw_len (p:=digitP') (b::r)
     refine ⟨?_,h1.1,h1.2,by decide,by decide⟩
     rw [List.takeWhile_cons,hd];simp
    ·cases h
   ·split at h
    ·rename_i hd hl
     split at h
     ·simp only [Option.some.injEq,Prod.mk.injEq] at h
      obtain ⟨rfl,rfl,rfl⟩:=h
      have h1:=tw_len (p:=wordP) (b::r)
      refine ⟨?_,h1.1,h1.2,by decide,by decide⟩
      rw [List.takeWhile_cons,qdb hl];simp
     ·cases h
    ·split at h
     ·simp only [Option.some.injEq,Prod.mk.injEq] at h
      obtain ⟨rfl,rfl,rfl⟩:=h
      exact ⟨by simp,by simp,by simp,by decide,by decide⟩
     ·split at h
      ·cases h
      ·rename_i hne
       simp only [Option.some.injEq,Prod.mk.injEq] at h
       obtain ⟨rfl,rfl,rfl⟩:=h
       have h1:=signS_len (b::r)
       refine ⟨?_,h1.2.1,h1.2.2,by decide,by decide⟩
       cases hq:signS (b::r) with
       | nil=>exact absurd hq hne
       | cons=>simp
def tokOK (t:Tok):Prop:=(t.1=1→0≤t.2.2.1∧t.2.2.1≤999)∧(t.1=2→isWordP t.2.1=true)
theorem tokS_ok {s:List UInt8} {k n:Int} {w:List UInt8} (h:tokS s=some (k,w,n)) (x:Int):tokOK (k,w,n,x):=by
 cases s with
 | nil=>simp [tokS] at h
 | cons b r=>
   simp only [tokS] at h
   split at h
   ·rename_i hd
    split at h
    ·rename_i h3
     simp only [Option.some.injEq,Prod.mk.injEq] at h
     obtain ⟨rfl,rfl,rfl⟩:=h
     refine ⟨fun _=>?_,fun h=>(by cases h)⟩
     have:=qew _ ((b::r).takeWhile digitP') rfl fun b hb=>tw_all _ b hb
     have hl:((b::r).takeWhile digitP').length=0∨((b::r).takeWhile digitP').length=1∨((b::r).takeWhile digitP').length=2∨((b::r).takeWhile digitP').length=3:=by omega
     rcases hl with hl | hl | hl | hl<;>rw [hl] at this<;>simp at this ⊢<;>omega
    ·cases h
   ·split at h
    ·rename_i hd hl
     split at h
     ·rename_i h8
      simp only [Option.some.injEq,Prod.mk.injEq] at h
      obtain ⟨rfl,rfl,rfl⟩:=h
      refine ⟨fun h=>(by cases h),fun _=>?_⟩
      rw [List.takeWhile_cons,qdb hl] at h8 ⊢
      simp only [if_true,List.length_cons] at h8 ⊢
      simp only [isWordP,hl,Bool.true_and,Bool.and_eq_true,List.all_eq_true,decide_eq_true_eq]
      exact ⟨fun b hb=>tw_all _ b hb,h8⟩
     ·cases h
    ·split at h
     ·simp only [Option.some.injEq,Prod.mk.injEq] at h
      obtain ⟨rfl,rfl,rfl⟩:=h
      exact ⟨fun h=>(by cases h),fun h=>(by cases h)⟩
     ·split at h
      ·cases h
      ·simp only [Option.some.injEq,Prod.mk.injEq] at h
       obtain ⟨rfl,rfl,rfl⟩:=h
       exact ⟨fun h=>(by cases h),fun h=>(by cases h)⟩
def toksOK (l:List Tok):Prop:=∃ (q:List Tok) (x:Int),l=q++[(5,[],0,x)]∧∀ t∈q,t.1≠5∧tokOK t
theorem lexGo_ok:∀ (f:Nat) (s:List UInt8) (a:Nat) (out:List Tok),(∀ t∈out,t.1≠5∧tokOK t)→∀ (e x:Int) (l:List Tok),lexGo f s a out=(e,x,l)→e=0→toksOK l∧l.length≤out.length+s.length+1
 | 0,s,a,out,ho,e,x,l,h,he=>by
   simp only [lexGo,Prod.mk.injEq] at h
   omega
 | f+1,[],a,out,ho,e,x,l,h,he=>by
   simp only [lexGo,Prod.mk.injEq] at h
   obtain ⟨_,_,rfl⟩:=h
   exact ⟨⟨out,a,rfl,ho⟩,by simp⟩
 | f+1,b::r,a,out,ho,e,x,l,h,he=>by
   simp only [lexGo] at h
   split at h
   ·have:=lexGo_ok f r (a+1) out ho e x l h he
    exact ⟨this.1,by simp;omega⟩
   ·split at h
    ·simp only [Prod.mk.injEq] at h
     omega
    ·rename_i k w n ht
     have h1:=tok_len ht
     have:=lexGo_ok f ((b::r).drop w.length) (a+w.length) (out++[(k,w,n,(a:Int))]) (fun t ht'=>by
      rcases List.mem_append.1 ht' with h2 | h2
      ·exact ho t h2
      ·simp at h2;subst h2;exact ⟨h1.2.2.2.2,tokS_ok ht _⟩) e x l h he
     refine ⟨this.1,?_⟩
     have h2:=this.2
     simp only [List.length_append,List.length_cons,List.length_nil,List.length_drop] at h2 ⊢
     omega
theorem lexS_ok {s:List UInt8} {x:Int} {l:List Tok} (h:lexS s=(0,x,l)):toksOK l∧l.length≤s.length+1∧s.length≤60000:=by
 unfold lexS at h
 split at h
 ·simp at h
 ·have:=lexGo_ok _ s 0 [] (by simp) 0 x l h rfl
  exact ⟨this.1,by simpa using this.2,by omega⟩
abbrev Trm:=Int×Int×List UInt8×List UInt8
def opn (k:Int):Int:=
 if k=1∨k=2∨k=3 then 0 else if k=4∨k=8∨k=11∨k=12 then 1 else if k=5∨k=6∨k=7∨k=9∨k=10 then 2 else -1
section
variable {X:Type} (E:List X→Bool)
def badP (p:Int×List X) (d:Int):Bool:=
 decide (opn p.1<0) || decide (d<opn p.1) || (decide (p.1=3) && !E p.2) || (!decide (p.1=3) && decide (0<p.2.length))
def rGo:List (Int×List X)→Int→Option Int
 | [],d=>some d
 | p::r,d=>if badP E p d then none else rGo r (d+1-opn p.1)
inductive Fm (X:Type) where
 | nul (p:Int×List X)
 | un (p:Int×List X) (a:Fm X)
 | bi (p:Int×List X) (a b:Fm X)
def Fm.flat:Fm X→List (Int×List X)
 | .nul p=>[p]
 | .un p a=>a.flat++[p]
 | .bi p a b=>a.flat++b.flat++[p]
def Fm.size:Fm X→Nat
 | .nul _=>1
 | .un _ a=>a.size+1
 | .bi _ a b=>a.size+b.size+1
def Fm.wf:Fm X→Prop
 | .nul p=>opn p.1=0∧(p.1=3→E p.2=true)∧(p.1≠3→p.2=[])
 | .un p a=>opn p.1=1∧p.2=[]∧a.wf
 | .bi p a b=>opn p.1=2∧p.2=[]∧a.wf∧b.wf
theorem Fm.flat_len (t:Fm X):t.flat.length=t.size:=by
 induction t with
 | nul=>rfl
 | un p a ih=>simp [Fm.flat,Fm.size,ih]
 | bi p a b iha ihb=>simp [Fm.flat,Fm.size,iha,ihb];omega
theorem ne3 {k n:Int} (h:opn k=n) (hn:n≠0):k≠3:=by
 rintro rfl
 exact hn (by rw [←h];rfl)
def rightF (f:List (Int×List X)):Bool:=(match rGo E f 0 with
 | some d=>decide (d=1)
 | none=>false) && decide (f.length≤60)
def Fm.kids:Fm X→Nat→List (List Int)
 | .nul _,_=>[[]]
 | .un _ a,b=>a.kids b++[[((b+a.size-1:Nat):Int)]]
 | .bi _ a c,b=>a.kids b++c.kids (b+a.size)++[[((b+a.size-1:Nat):Int),((b+a.size+c.size-1:Nat):Int)]]
theorem Fm.kids_len (t:Fm X):∀ b,(t.kids b).length=t.size:=by
 induction t with
 | nul=>intro b;rfl
 | un p a ih=>intro b;simp [Fm.kids,Fm.size,ih]
 | bi p a c iha ihc=>intro b;simp [Fm.kids,Fm.size,iha,ihc];omega
end
abbrev Prt:=Int×List Trm
def smallF (f:List Prt):Prop:=f.length<900000∧∀ p∈f,p.2.length<900000
theorem smallF.at {f:List Prt} (h:smallF f) {i:Nat} (hi:i<f.length):(f.getD i (Ty.dflt ty78)).2.length<900000:=by
 refine h.2 _ ?_
 rw [List.getD_eq_getElem?_getD,List.getElem?_eq_getElem hi]
 exact List.getElem_mem _
section
variable (E:List Trm→Bool) (f:List Prt) (hf:smallF f)
end
def opE (k:Int):Int:=if k<1∨16<k then -1 else if k≤3 then 0 else if k≤5 then 1 else 2
theorem opE_prog (k:Int):M50 k=some (opE k):=by
 show T50 Ops.std k some=_
 unfold T50 opE
 simp only [qan,qa1,qah,qaa]
 (repeat' split)<;>first | rfl | (exfalso;omega)
theorem opE_ref (k:Int):M55 k=some (opE k):=by
 show T55 Ops.std k some=_
 unfold T55 opE
 simp only [qan,qa1,qah,qaa]
 (repeat' split)<;>first | rfl | (exfalso;omega)
def mayT (t:Trm):Bool:=
 if t.1=1 then decide (0≤t.2.1) && decide (t.2.1≤999) && (t.2.2.1 == []) && (t.2.2.2 == [])
 else if t.1=2 then decide (t.2.1=0) && isWordP t.2.2.1 && (t.2.2.2 == [])
 else if t.1=3 then decide (t.2.1=0) && isWordP t.2.2.1 && isWordP t.2.2.2
 else decide (0<opE t.1) && decide (t.2.1=0) && (t.2.2.1 == []) && (t.2.2.2 == [])
theorem may_prog (a b:Int) (c d:List UInt8):M58 a b c d=some (mayT (a,b,c,d)):=by
 show T58 Ops.std M95 M50 a b c d some=_
 unfold T58 mayT
 simp only [qan,qa1,qah,qaa,isWord_prog,opE_prog,ob_s]
 by_cases h1:a=1
 ·simp only [h1,if_true]
  by_cases h2:0≤b<;>by_cases h3:b≤999<;>cases hc:(c == ([]:List UInt8))<;>simp [h2,h3,hc]
 ·simp only [h1,if_false]
  by_cases h2:a=2
  ·simp only [h2,if_true]
   by_cases h3:b=0<;>cases hc:isWordP c<;>simp [h3,hc]
  ·simp only [h2,if_false]
   by_cases h3:a=3
   ·simp only [h3,if_true]
    by_cases h4:b=0<;>cases hc:isWordP c<;>simp [h4,hc]
   ·simp only [h3,if_false]
    by_cases h4:0<opE a<;>by_cases h5:b=0<;>cases hc:(c == ([]:List UInt8))<;>simp [h4,h5,hc]
def eGo:List Trm→Int→Option Int
 | [],d=>some d
 | p::r,d=>if !mayT p || decide (d<opE p.1) then none else eGo r (d+1-opE p.1)
def fin30 (f:List Trm) (o:Option Int):Bool:=match o with
 | some d=>decide (d=1) && decide (f.length≤30)
 | none=>false
def rightE (e:List Trm):Bool:=fin30 e (eGo e 0)
theorem opE_le (k:Int):-1≤opE k∧opE k≤2:=by unfold opE;(repeat' split)<;>omega
theorem mayT_op {t:Trm} (h:mayT t=true):0≤opE t.1:=by
 unfold mayT at h
 unfold opE at *
 (repeat' split at h)<;>(repeat' split)<;>simp_all<;>omega
theorem qbx (f:List Trm) (hf:f.length<900000):∀ (t i n:Nat) (d:Int),i+t=f.length→t<n→0≤d→d≤i→
  R22 M50 M58 f n (.l0 d (f.length:Nat) i)=some (fin30 f (eGo (f.drop i) d))
 | t,i,0,d,hi,hn,h0,hd=>by omega
 | 0,i,n+1,d,hi,hn,h0,hd=>by
   show T22 Ops.std _ _ f _ some _=_
   unfold T22
   simp only [qah,qan,qa1,qaa]
   rw [if_neg (by omega),List.drop_eq_nil_of_le (by omega)]
   simp only [eGo,fin30]
   by_cases h1:d=1
   ·rw [if_pos h1];simp [h1];omega
   ·rw [if_neg h1];simp [h1]
 | t+1,i,n+1,d,hi,hn,h0,hd=>by
   have hlt:i<f.length:=by omega
   have ih:=fun d=>qbx f hf t (i+1) n d (by omega) (by omega)
   show T22 Ops.std _ _ f _ some _=_
   unfold T22
   rw [qa3 (Ty.dflt ty56) hlt]
   simp only [qah,qan,qa1,qak,qaa,qbd,qab,eGo]
   generalize f.getD i (Ty.dflt ty56)=p
   obtain ⟨hb1,hb2⟩:=opE_le p.1
   rw [if_pos (by omega),if_pos (by omega),opE_prog,ob_s,may_prog,ob_s]
   have hp:mayT (p.1,p.2.1,p.2.2.1,p.2.2.2)=mayT p:=rfl
   rw [hp]
   cases hm:mayT p with
   | false=>simp [fin30]
   | true=>
     have:=mayT_op hm
     simp only [Bool.not_true,cond_false,Bool.false_or]
     by_cases h2:d<opE p.1
     ·rw [if_pos h2];simp [h2,fin30]
     ·rw [if_neg h2]
      have hw:IntKind.wrap IntKind.i64 (d+IntKind.wrap IntKind.i64 (1-opE p.1))=d+1-opE p.1:=by
       rw [wrap64 (n:=1-opE p.1) (by omega) (by omega),wrap64 (by omega) (by omega)];omega
      rw [hw,show IntKind.wrap IntKind.i64 ((i:Int)+1)=((i+1:Nat):Int) from qai (by omega),ih _ (by omega) (by omega)]
      simp [h2]
theorem rightE_prog (f:List Trm) (hf:f.length<900000):M22 f=some (rightE f):=by
 show T22 Ops.std M50 M58 f (R22 M50 M58 f 1000000) some none=_
 unfold T22
 exact qbx f hf f.length 0 1000000 0 (by omega) (by omega) (by omega) (by omega)
noncomputable abbrev rightER (f:List Trm):=R36 M55 M79 f
def smallE (f:List Trm):Prop:=f.length<900000∧∀ p∈f,p.2.2.1.length<900000∧p.2.2.2.length<900000
theorem smallE.at {f:List Trm} (h:smallE f) {i:Nat} (hi:i<f.length):(f.getD i (Ty.dflt ty56)).2.2.1.length<900000∧(f.getD i (Ty.dflt ty56)).2.2.2.length<900000:=by
 refine h.2 _ ?_
 rw [List.getD_eq_getElem?_getD,List.getElem?_eq_getElem hi]
 exact List.getElem_mem _
theorem qb7 (f:List Trm) (hf:smallE f):∀ (t i n:Nat) (d:Int),i+t=f.length→3*t<n→0≤d→d≤i→
  rightER f n (.l0 d i)=some (fin30 f (eGo (f.drop i) d))
 | t,i,0,d,hi,hn,h0,hd=>by omega
 | 0,i,n+1,d,hi,hn,h0,hd=>by
   show T36 Ops.std _ _ f _ some _=_
   unfold T36
   simp only [qah,qan,qa1,qaa]
   rw [if_neg (by omega),List.drop_eq_nil_of_le (by omega)]
   simp only [eGo,fin30]
   by_cases h1:d=1
   ·rw [if_pos h1];simp [h1];omega
   ·rw [if_neg h1];simp [h1]
 | t+1,i,n+1,d,hi,hn,h0,hd=>by
   have hlt:i<f.length:=by omega
   obtain ⟨m,rfl⟩:∃ m,n=m+2:=⟨n-2,by omega⟩
   have ih:=fun d=>qb7 f hf t (i+1) m d (by omega) (by omega)
   have hl:=hf.1
   have hs:=hf.at hlt
   have e18:∀ a:Int,-1≤a→a≤2→rightER f (m+1) (.l1018 d i a)=rightER f m (.l0 (d+1-a) ((i+1:Nat):Int)):=fun a ha1 ha2=>by
    show T36 Ops.std _ _ f _ some _=_
    unfold T36
    show rightER f m (.l0 (IntKind.wrap IntKind.i64 (IntKind.wrap IntKind.i64 (d-a)+1)) (IntKind.wrap IntKind.i64 ((i:Int)+1)))=_
    rw [wrap64 (n:=d-a) (by omega) (by omega),wrap64 (n:=d-a+1) (by omega) (by omega),show IntKind.wrap IntKind.i64 ((i:Int)+1)=((i+1:Nat):Int) from qai (by omega)]
    congr 2;omega
   show T36 Ops.std _ _ f _ some _=_
   unfold T36
   rw [qa3 (Ty.dflt ty56) hlt]
   simp only [qah,qan,qa1,qak,qaa,qbd,qab,eGo]
   generalize f.getD i (Ty.dflt ty56)=p at hs ⊢
   obtain ⟨hb1,hb2⟩:=opE_le p.1
   rw [if_pos (by omega),if_pos (by omega),opE_ref,ob_s]
   have e16:∀ (w2:Int) (w3 w4:List UInt8),(opE p.1<0∨¬ (w2=p.2.1∧w3=p.2.2.1∧w4=p.2.2.2)∨p.2.1<0∨999<p.2.1∨(p.1=2∧isWordP p.2.2.1=false)∨(p.1=3∧(isWordP p.2.2.1 && isWordP p.2.2.2)=false)↔mayT p=false)→
     rightER f (m+2) (.l1016 d i (opE p.1) p.1 p.2.1 p.2.2.1 p.2.2.2 p.1 w2 w3 w4)=some (fin30 f (if !mayT p || decide (d<opE p.1) then none else eGo (f.drop (i+1)) (d+1-opE p.1))):=fun w2 w3 w4 hw=>by
    show T36 Ops.std _ _ f _ some _=_
    unfold T36
    simp only [qah,qan,qa1,qak,qaa,qev _ hs.1,qev _ hs.2,ob_s]
    have g18:=e18 (opE p.1) hb1 hb2
    cases hm:mayT p with
    | false=>
      have hbad:=hw.2 hm
      simp only [Bool.not_false,Bool.true_or,if_true,fin30]
      by_cases h1:opE p.1<0
      ·rw [if_pos h1]
      ·rw [if_neg h1]
       by_cases h2:d<opE p.1
       ·rw [if_pos h2]
       ·rw [if_neg h2]
        by_cases h3:w2=p.2.1∧w3=p.2.2.1∧w4=p.2.2.2
        ·obtain ⟨rfl,rfl,rfl⟩:=h3
         simp only [decide_true,beq_self_eq_true,Bool.and_self,Bool.not_true,cond_false]
         by_cases h4:p.2.1<0
         ·rw [if_pos h4]
         ·rw [if_neg h4]
          by_cases h5:999<p.2.1
          ·rw [if_pos h5]
          ·rw [if_neg h5]
           have h6:(p.1=2∧isWordP p.2.2.1=false)∨(p.1=3∧(isWordP p.2.2.1 && isWordP p.2.2.2)=false):=by
            rcases hbad with h | h | h | h | h | h
            ·exact absurd h h1
            ·exact absurd ⟨rfl,rfl,rfl⟩ h
            ·exact absurd h h4
            ·exact absurd h h5
            ·exact .inl h
            ·exact .inr h
           rcases h6 with ⟨h6,h7⟩ | ⟨h6,h7⟩
           ·rw [if_pos h6,h7];rfl
           ·rw [if_neg (by omega),if_pos h6]
            cases ha:isWordP p.2.2.1 with
            | false=>rfl
            | true=>
              rw [ha] at h7
              simp only [Bool.true_and] at h7
              simp only [Bool.not_true,cond_false,h7,Bool.not_false,cond_true]
              rw [if_pos h6]
        ·have:(!(decide True && (decide (p.2.1=w2) && (p.2.2.1 == w3 && (p.2.2.2 == w4 && true)))))=true:=by
          rw [Bool.not_eq_true',Bool.eq_false_iff]
          intro hx
          simp only [Bool.and_eq_true,decide_eq_true_eq,beq_iff_eq] at hx
          exact h3 ⟨hx.2.1.symm,hx.2.2.1.symm,hx.2.2.2.1.symm⟩
         rw [this];rfl
    | true=>
      have hgood:¬ (opE p.1<0∨¬ (w2=p.2.1∧w3=p.2.2.1∧w4=p.2.2.2)∨p.2.1<0∨999<p.2.1∨(p.1=2∧isWordP p.2.2.1=false)∨(p.1=3∧(isWordP p.2.2.1 && isWordP p.2.2.2)=false)):=fun h=>by
       have:=hw.1 h;rw [hm] at this;cases this
      simp only [not_or,Classical.not_not] at hgood
      obtain ⟨h1,⟨rfl,rfl,rfl⟩,h4,h5,h6,h7⟩:=hgood
      simp only [Bool.not_true,Bool.false_or,decide_true,beq_self_eq_true,Bool.and_self,cond_false]
      rw [if_neg h1]
      by_cases h2:d<opE p.1
      ·rw [if_pos h2];simp [h2,fin30]
      ·rw [if_neg h2,if_neg h4,if_neg h5]
       have hgo:=g18.trans (ih (d+1-opE p.1) (by omega) (by omega))
       have hres:(if decide (d<opE p.1)=true then none else eGo (f.drop (i+1)) (d+1-opE p.1))=eGo (f.drop (i+1)) (d+1-opE p.1):=by simp [h2]
       rw [hres]
       by_cases h8:p.1=2
       ·have ha:isWordP p.2.2.1=true:=by
         cases ha:isWordP p.2.2.1 with
         | true=>rfl
         | false=>exact absurd ⟨h8,ha⟩ h6
        rw [if_pos h8,ha]
        simp only [Bool.not_true,cond_false]
        rw [if_neg (by omega)]
        exact hgo
       ·rw [if_neg h8]
        by_cases h9:p.1=3
        ·have hab:(isWordP p.2.2.1 && isWordP p.2.2.2)=true:=by
          cases hab:(isWordP p.2.2.1 && isWordP p.2.2.2) with
          | true=>rfl
          | false=>exact absurd ⟨h9,hab⟩ h7
         simp only [Bool.and_eq_true] at hab
         rw [if_pos h9,hab.1]
         simp only [Bool.not_true,cond_false]
         rw [if_pos h9,hab.2]
         simp only [Bool.not_true,cond_false]
         exact hgo
        ·rw [if_neg h9,if_neg h9]
         exact hgo
   by_cases h1:p.1=1
   ·rw [if_pos h1]
    refine e16 p.2.1 [] [] ?_
    have hop:opE p.1=0:=by rw [h1];rfl
    have hmt:mayT p=(decide (0≤p.2.1) && decide (p.2.1≤999) && (p.2.2.1 == []) && (p.2.2.2 == [])):=by unfold mayT;rw [if_pos h1]
    rw [hmt]
    simp only [Bool.and_eq_false_iff,decide_eq_false_iff_not,beq_eq_false_iff_ne]
    constructor
    ·intro h
     rcases h with h | h | h | h | h | h
     ·omega
     ·by_cases h2:p.2.2.1=[]
      ·exact .inr fun h3=>h ⟨trivial,h2.symm,h3.symm⟩
      ·exact .inl (.inr h2)
     ·exact .inl (.inl (.inl (by omega)))
     ·exact .inl (.inl (.inr (by omega)))
     ·omega
     ·omega
    ·intro h
     rcases h with ((h | h) | h) | h
     ·exact .inr (.inr (.inl (by omega)))
     ·exact .inr (.inr (.inr (.inl (by omega))))
     ·exact .inr (.inl fun h2=>h h2.2.1.symm)
     ·exact .inr (.inl fun h2=>h h2.2.2.symm)
   ·rw [if_neg h1]
    by_cases h2:p.1=2
    ·rw [if_pos h2]
     refine e16 0 p.2.2.1 [] ?_
     have hop:opE p.1=0:=by rw [h2];rfl
     have hmt:mayT p=(decide (p.2.1=0) && isWordP p.2.2.1 && (p.2.2.2 == [])):=by unfold mayT;rw [if_neg h1,if_pos h2]
     rw [hmt]
     simp only [Bool.and_eq_false_iff,decide_eq_false_iff_not,beq_eq_false_iff_ne]
     constructor
     ·intro h
      rcases h with h | h | h | h | h | h
      ·omega
      ·by_cases h3:p.2.1=0
       ·exact .inr fun h4=>h ⟨h3.symm,trivial,h4.symm⟩
       ·exact .inl (.inl h3)
      ·exact .inl (.inl (by omega))
      ·exact .inl (.inl (by omega))
      ·exact .inl (.inr h.2)
      ·omega
     ·intro h
      rcases h with (h | h) | h
      ·exact .inr (.inl fun h3=>h h3.1.symm)
      ·exact .inr (.inr (.inr (.inr (.inl ⟨h2,h⟩))))
      ·exact .inr (.inl fun h3=>h h3.2.2.symm)
    ·rw [if_neg h2]
     by_cases h3:p.1=3
     ·rw [if_pos h3]
      refine e16 0 p.2.2.1 p.2.2.2 ?_
      have hop:opE p.1=0:=by rw [h3];rfl
      have hmt:mayT p=(decide (p.2.1=0) && isWordP p.2.2.1 && isWordP p.2.2.2):=by unfold mayT;rw [if_neg h1,if_neg h2,if_pos h3]
      rw [hmt]
      simp only [Bool.and_eq_false_iff,decide_eq_false_iff_not]
      constructor
      ·intro h
       rcases h with h | h | h | h | h | h
       ·omega
       ·by_cases h4:p.2.1=0
        ·exact absurd ⟨h4.symm,trivial,trivial⟩ h
        ·exact .inl (.inl h4)
       ·exact .inl (.inl (by omega))
       ·exact .inl (.inl (by omega))
       ·omega
       ·rcases h.2 with h | h
        ·exact .inl (.inr h)
        ·exact .inr h
      ·intro h
       rcases h with (h | h) | h
       ·exact .inr (.inl fun h4=>h h4.1.symm)
       ·exact .inr (.inr (.inr (.inr (.inr ⟨h3,.inl h⟩))))
       ·exact .inr (.inr (.inr (.inr (.inr ⟨h3,.inr h⟩))))
     ·rw [if_neg h3]
      refine e16 0 [] [] ?_
      have hmt:mayT p=(decide (0<opE p.1) && decide (p.2.1=0) && (p.2.2.1 == []) && (p.2.2.2 == [])):=by unfold mayT;rw [if_neg h1,if_neg h2,if_neg h3]
      rw [hmt]
      simp only [Bool.and_eq_false_iff,decide_eq_false_iff_not,beq_eq_false_iff_ne]
      constructor
      ·intro h
       rcases h with h | h | h | h | h | h
       ·exact .inl (.inl (.inl (by omega)))
       ·by_cases h4:p.2.1=0
        ·by_cases h5:p.2.2.1=[]
         ·exact .inr fun h6=>h ⟨h4.symm,h5.symm,h6.symm⟩
         ·exact .inl (.inr h5)
        ·exact .inl (.inl (.inr h4))
       ·exact .inl (.inl (.inr (by omega)))
       ·exact .inl (.inl (.inr (by omega)))
       ·exact absurd h.1 (by omega)
       ·exact absurd h.1 (by omega)
      ·intro h
       rcases h with ((h | h) | h) | h
       ·refine .inl ?_
        unfold opE at h ⊢
        (repeat' split at h)<;>(repeat' split)<;>omega
       ·exact .inr (.inl fun h4=>h h4.1.symm)
       ·exact .inr (.inl fun h4=>h h4.2.1.symm)
       ·exact .inr (.inl fun h4=>h h4.2.2.symm)
theorem rightE_ref (f:List Trm) (hf:smallE f) (h3:f.length<300000):M36 f=some (rightE f):=by
 show T36 Ops.std M55 M79 f (rightER f 1000000) some none=_
 unfold T36
 exact qb7 f hf f.length 0 1000000 0 (by omega) (by omega) (by omega) (by omega)
theorem toks_len {l:List Tok} (h:toksOK l):0<l.length:=by
 obtain ⟨q,x,rfl,_⟩:=h;simp
theorem qdc {l:List Tok} (h:toksOK l) {i:Nat} (hi:i<l.length) (d:Tok):(i+1<l.length∨(l.getD i d).1=5)∧tokOK (l.getD i d)∧((l.getD i d).1=5→i+1=l.length):=by
 obtain ⟨q,x,rfl,hq⟩:=h
 simp only [List.length_append,List.length_cons,List.length_nil] at hi ⊢
 by_cases hlt:i<q.length
 ·have hg:(q++[(5,[],0,x)]).getD i d=q[i]:=by
   rw [List.getD_eq_getElem?_getD,List.getElem?_append_left hlt,List.getElem?_eq_getElem hlt];rfl
  rw [hg]
  have:=hq _ (List.getElem_mem hlt)
  exact ⟨.inl (by omega),this.2,fun h=>absurd h this.1⟩
 ·have hi':i=q.length:=by omega
  subst hi'
  rw [qbt]
  exact ⟨.inr rfl,⟨fun h=>(by cases h),fun h=>(by cases h)⟩,fun _=>rfl⟩
theorem qar {l:List Tok} (h:toksOK l) {i:Nat} (hi:i<l.length) (d:Tok) (hk:(l.getD i d).1≠5):i+1<l.length:=by
 rcases (qdc h hi d).1 with h1 | h1
 ·exact h1
 ·exact absurd h1 hk
def goodE (e:List Trm):Prop:=∀ (r:List Trm) (d:Int),0≤d→eGo (e++r) d=eGo r (d+1)
theorem goodE.nul {t:Trm} (h:mayT t=true) (ho:opE t.1=0):goodE [t]:=fun r d hd=>by
 simp only [List.cons_append,List.nil_append,eGo,h,ho]
 rw [if_neg (by simp;omega)]
 congr 1;omega
theorem goodE.un {e:List Trm} {t:Trm} (he:goodE e) (h:mayT t=true) (ho:opE t.1=1):goodE (e++[t]):=fun r d hd=>by
 rw [List.append_assoc,he _ d hd]
 simp only [List.cons_append,List.nil_append,eGo,h,ho]
 rw [if_neg (by simp;omega)]
 congr 1;omega
theorem goodE.bi {e e2:List Trm} {t:Trm} (he:goodE e) (he2:goodE e2) (h:mayT t=true) (ho:opE t.1=2):goodE (e++e2++[t]):=fun r d hd=>by
 rw [List.append_assoc,List.append_assoc,he _ d hd,he2 _ (d+1) (by omega)]
 simp only [List.cons_append,List.nil_append,eGo,h,ho]
 rw [if_neg (by simp;omega)]
 congr 1;omega
theorem goodE.right {e:List Trm} (h:goodE e) (hl:e.length≤30):rightE e=true:=by
 have:=h [] 0 (by omega)
 rw [List.append_nil] at this
 unfold rightE
 rw [this]
 simp [eGo,fin30,hl]
theorem may_op {k:Int} (h:4≤k) (h2:k≤16):mayT (k,0,[],[])=true:=by
 have:0<opE k:=by unfold opE;(repeat' split)<;>omega
 unfold mayT
 rw [if_neg (by show ¬ k=1;omega),if_neg (by show ¬ k=2;omega),if_neg (by show ¬ k=3;omega)]
 simp [this]
abbrev tkD (l:List Tok) (a:Nat):Tok:=l.getD a (Ty.dflt ty85)
def isS (l:List Tok) (a:Nat) (w:List UInt8):Bool:=decide ((tkD l a).1=4) && ((tkD l a).2.1 == w)
def sgW (w:List UInt8):Int×Nat:=
 if w=[42] then (6,5) else if w=[43] then (7,4) else if w=[45] then (8,4) else if w=[60] then (9,3) else if w=[60,61] then (10,3) else if w=[62] then (11,3) else if w=[62,61] then (12,3) else if w=[61,61] then (13,3) else if w=[33,61] then (14,3) else if w=[38,38] then (15,2) else if w=[124,124] then (16,1) else (0,0)
def sgE (l:List Tok) (a:Nat):Int×Nat:=if (tkD l a).1=4 then sgW (tkD l a).2.1 else (0,0)
theorem sgW_cases (w:List UInt8):sgW w=(0,0)∨(6≤(sgW w).1∧(sgW w).1≤16):=by
 unfold sgW
 (repeat' split)<;>decide
theorem sgE_op {l:List Tok} {a n:Nat} (h:(sgE l a).2=n) (hn:1≤n):6≤(sgE l a).1∧(sgE l a).1≤16∧(tkD l a).1=4:=by
 unfold sgE at h ⊢
 by_cases hk:(tkD l a).1=4
 ·rw [if_pos hk] at h ⊢
  rcases sgW_cases (tkD l a).2.1 with hc | hc
  ·rw [hc] at h;have h:0=n:=h;omega
  ·exact ⟨hc.1,hc.2,hk⟩
 ·rw [if_neg hk] at h;have h:0=n:=h;omega
theorem mayN {n:Int} (h:0≤n∧n≤999):mayT (1,n,[],[])=true:=by simp [mayT,h]
theorem mayV {w:List UInt8} (h:isWordP w=true):mayT (2,0,w,[])=true:=by simp [mayT,h]
theorem mayA {w v:List UInt8} (h:isWordP w=true) (h2:isWordP v=true):mayT (3,0,w,v)=true:=by simp [mayT,h,h2]
inductive PS where
 | lv (n a:Nat)
 | lp (n b:Nat) (e:List Trm)
 | un (a:Nat)
inductive PR where
 | ok (b:Nat) (e:List Trm)
 | bad (k:Nat)
def onOk (r:Option PR) (f:Nat→List Trm→Option PR):Option PR:=match r with
 | some (.ok b e)=>f b e
 | some (.bad k)=>some (.bad k)
 | none=>none
def go (l:List Tok):Nat→PS→Option PR
 | 0,_=>none
 | d+1,.lv n a=>if n=6 then go l d (.un a) else onOk (go l d (.lv (n+1) a)) fun b e=>go l d (.lp n b e)
 | d+1,.lp n b e=>if (sgE l b).2=n then onOk (go l d (.lv (n+1) (b+1))) fun c e2=>if n=3 then some (.ok c (e++e2++[((sgE l b).1,0,[],[])])) else go l d (.lp n c (e++e2++[((sgE l b).1,0,[],[])])) else some (.ok b e)
 | d+1,.un a=>
   if isS l a [33] then onOk (go l d (.un (a+1))) fun b e=>some (.ok b (e++[(4,0,[],[])]))
   else if isS l a [45] then onOk (go l d (.un (a+1))) fun b e=>some (.ok b (e++[(5,0,[],[])]))
   else if (tkD l a).1=1 then some (.ok (a+1) [(1,(tkD l a).2.2.1,[],[])])
   else if (tkD l a).1=2 then if isS l (a+1) [64] then if (tkD l (a+2)).1=2 then some (.ok (a+3) [(3,0,(tkD l a).2.1,(tkD l (a+2)).2.1)]) else some (.bad (a+2)) else some (.ok (a+1) [(2,0,(tkD l a).2.1,[])])
   else if isS l a [40] then onOk (go l d (.lv 1 (a+1))) fun b e=>if isS l b [41] then some (.ok (b+1) e) else some (.bad b)
   else some (.bad a)
def PE (l:List Tok) (s:PS) (r:PR):Prop:=∃ d0,∀ d,d0≤d→go l d s=some r
theorem PE.det {l:List Tok} {s:PS} {r r':PR} (h:PE l s r) (h':PE l s r'):r=r':=by
 obtain ⟨d,h⟩:=h
 obtain ⟨d',h'⟩:=h'
 have h1:=h (d+d') (by omega)
 have h2:=h' (d+d') (by omega)
 rw [h1] at h2
 exact Option.some.inj h2
theorem PE.run {l:List Tok} {s:PS} {r:PR} (h:PE l s r):∃ d,go l d s=some r:=by
 obtain ⟨d,h⟩:=h
 exact ⟨d,h d (Nat.le_refl _)⟩
section
variable {l:List Tok}
theorem pe1 {s:PS} {r:PR} (h:∀ d,go l (d+1) s=some r):PE l s r:=⟨1,fun d hd=>by
 obtain ⟨g,rfl⟩:∃ g,d=g+1:=⟨d-1,by omega⟩
 exact h g⟩
theorem pe2 {s s1:PS} {r r1:PR} (h1:PE l s1 r1) (h:∀ d,go l d s1=some r1→go l (d+1) s=some r):PE l s r:=by
 obtain ⟨d0,h1⟩:=h1
 exact ⟨d0+1,fun d hd=>by
  obtain ⟨g,rfl⟩:∃ g,d=g+1:=⟨d-1,by omega⟩
  exact h g (h1 g (by omega))⟩
theorem pe3 {s s1 s2:PS} {r r1 r2:PR} (h1:PE l s1 r1) (h2:PE l s2 r2) (h:∀ d,go l d s1=some r1→go l d s2=some r2→go l (d+1) s=some r):PE l s r:=by
 obtain ⟨d1,h1⟩:=h1
 obtain ⟨d2,h2⟩:=h2
 exact ⟨d1+d2+1,fun d hd=>by
  obtain ⟨g,rfl⟩:∃ g,d=g+1:=⟨d-1,by omega⟩
  exact h g (h1 g (by omega)) (h2 g (by omega))⟩
theorem pe_six {a:Nat} {r:PR} (h:PE l (.un a) r):PE l (.lv 6 a) r:=pe2 h fun d h=>by rw [go,if_pos rfl,h]
theorem pe_bad {n a k:Nat} (hn:n≠6) (h:PE l (.lv (n+1) a) (.bad k)):PE l (.lv n a) (.bad k):=pe2 h fun d h=>by rw [go,if_neg hn,h];rfl
theorem pe_lv {n a b:Nat} {e:List Trm} {r:PR} (hn:n≠6) (h:PE l (.lv (n+1) a) (.ok b e)) (h2:PE l (.lp n b e) r):PE l (.lv n a) r:=pe3 h h2 fun d h h2=>by rw [go,if_neg hn,h];exact h2
theorem pe_stop {n b:Nat} {e:List Trm} (h:(sgE l b).2≠n):PE l (.lp n b e) (.ok b e):=pe1 fun d=>by rw [go,if_neg h]
theorem pe_lpbad {n b k:Nat} {e:List Trm} (hs:(sgE l b).2=n) (h:PE l (.lv (n+1) (b+1)) (.bad k)):PE l (.lp n b e) (.bad k):=pe2 h fun d h=>by rw [go,if_pos hs,h];rfl
theorem pe_three {b c:Nat} {e e2:List Trm} (hs:(sgE l b).2=3) (h:PE l (.lv 4 (b+1)) (.ok c e2)):PE l (.lp 3 b e) (.ok c (e++e2++[((sgE l b).1,0,[],[])])):=pe2 h fun d h=>by rw [go,if_pos hs,h];rfl
theorem pe_more {n b c:Nat} {e e2:List Trm} {r:PR} (hn:n≠3) (hs:(sgE l b).2=n) (h:PE l (.lv (n+1) (b+1)) (.ok c e2)) (h2:PE l (.lp n c (e++e2++[((sgE l b).1,0,[],[])])) r):PE l (.lp n b e) r:=pe3 h h2 fun d h h2=>by
 rw [go,if_pos hs,h]
 show (if n=3 then _ else _)=_
 rw [if_neg hn,h2]
theorem pe_not {a b:Nat} {e:List Trm} (hs:isS l a [33]=true) (h:PE l (.un (a+1)) (.ok b e)):PE l (.un a) (.ok b (e++[(4,0,[],[])])):=pe2 h fun d h=>by rw [go,if_pos hs,h];rfl
theorem pe_notb {a k:Nat} (hs:isS l a [33]=true) (h:PE l (.un (a+1)) (.bad k)):PE l (.un a) (.bad k):=pe2 h fun d h=>by rw [go,if_pos hs,h];rfl
theorem qbh {a:Nat} {w v:List UInt8} (h:isS l a w=true) (hv:w≠v):¬ isS l a v=true:=fun h2=>by
 unfold isS at h h2
 simp only [Bool.and_eq_true,decide_eq_true_eq,beq_iff_eq] at h h2
 exact hv (h.2.symm.trans h2.2)
theorem qcq {a:Nat} {w:List UInt8} (h:(tkD l a).1≠4):¬ isS l a w=true:=fun h2=>by
 unfold isS at h2
 simp only [Bool.and_eq_true,decide_eq_true_eq] at h2
 exact h h2.1
theorem qb0 {a:Nat} {w:List UInt8} (h:isS l a w=true):(tkD l a).1=4:=by
 unfold isS at h
 simp only [Bool.and_eq_true,decide_eq_true_eq] at h
 exact h.1
theorem pe_neg {a b:Nat} {e:List Trm} (hs:isS l a [45]=true) (h:PE l (.un (a+1)) (.ok b e)):PE l (.un a) (.ok b (e++[(5,0,[],[])])):=pe2 h fun d h=>by rw [go,if_neg (qbh hs (by decide)),if_pos hs,h];rfl
theorem pe_negb {a k:Nat} (hs:isS l a [45]=true) (h:PE l (.un (a+1)) (.bad k)):PE l (.un a) (.bad k):=pe2 h fun d h=>by rw [go,if_neg (qbh hs (by decide)),if_pos hs,h];rfl
theorem pe_num {a:Nat} (hk:(tkD l a).1=1):PE l (.un a) (.ok (a+1) [(1,(tkD l a).2.2.1,[],[])]):=pe1 fun d=>by
 rw [go,if_neg (qcq (by rw [hk];decide)),if_neg (qcq (by rw [hk];decide)),if_pos hk]
theorem pe_word {a:Nat} (hk:(tkD l a).1=2):PE l (.un a) (if isS l (a+1) [64] then if (tkD l (a+2)).1=2 then .ok (a+3) [(3,0,(tkD l a).2.1,(tkD l (a+2)).2.1)] else .bad (a+2) else .ok (a+1) [(2,0,(tkD l a).2.1,[])]):=pe1 fun d=>by
 rw [go,if_neg (qcq (by rw [hk];decide)),if_neg (qcq (by rw [hk];decide)),if_neg (by rw [hk];decide),if_pos hk]
 (repeat' split)<;>rfl
theorem pe_brab {a k:Nat} (hs:isS l a [40]=true) (h:PE l (.lv 1 (a+1)) (.bad k)):PE l (.un a) (.bad k):=pe2 h fun d h=>by
 rw [go,if_neg (qbh hs (by decide)),if_neg (qbh hs (by decide)),if_neg (by rw [qb0 hs];decide),if_neg (by rw [qb0 hs];decide),if_pos hs,h];rfl
theorem pe_bra {a b:Nat} {e:List Trm} (hs:isS l a [40]=true) (h:PE l (.lv 1 (a+1)) (.ok b e)):PE l (.un a) (if isS l b [41] then .ok (b+1) e else .bad b):=pe2 h fun d h=>by
 rw [go,if_neg (qbh hs (by decide)),if_neg (qbh hs (by decide)),if_neg (by rw [qb0 hs];decide),if_neg (by rw [qb0 hs];decide),if_pos hs,h]
 show (if _ then _ else _)=_
 split<;>rfl
theorem pe_none {a:Nat} (h1:¬ isS l a [33]=true) (h2:¬ isS l a [45]=true) (h3:(tkD l a).1≠1) (h4:(tkD l a).1≠2) (h5:¬ isS l a [40]=true):PE l (.un a) (.bad a):=pe1 fun d=>by
 rw [go,if_neg h1,if_neg h2,if_neg h3,if_neg h4,if_neg h5]
def PS.at:PS→Nat
 | .lv _ a=>a
 | .lp _ b _=>b
 | .un a=>a
def PS.lvl:PS→Nat
 | .lv n _=>n
 | .lp n _ _=>n
 | .un _=>6
def Bd (l:List Tok):PS→PR→Prop
 | .lp _ a e0,.ok b e=>a≤b∧b<l.length∧e.length≤e0.length+(b-a)∧(goodE e0→goodE e)
 | s,.ok b e=>s.at<b∧b<l.length∧e.length≤b-s.at∧goodE e
 | s,.bad k=>s.at≤k∧k<l.length
theorem qas {r:Option PR} {f:Nat→List Trm→Option PR} {q:PR} (h:onOk r f=some q):(∃ b e,r=some (.ok b e)∧f b e=some q)∨∃ k,r=some (.bad k)∧q=.bad k:=by
 cases r with
 | none=>cases h
 | some x=>
   cases x with
   | ok b e=>exact .inl ⟨b,e,rfl,h⟩
   | bad k=>exact .inr ⟨k,rfl,(Option.some.inj h).symm⟩
theorem qch (hl:toksOK l):∀ (d:Nat) (s:PS) (r:PR),1≤s.lvl→s.at<l.length→go l d s=some r→Bd l s r
 | 0,s,r,_,_,h=>by cases h
 | d+1,.lv n a,r,h1,ha,h=>by
   have ha:a<l.length:=ha
   have h1:1≤n:=h1
   rw [go] at h
   split at h
   ·have:=qch hl d _ r (by show 1≤6;omega) (by exact ha) h
    cases r<;>exact this
   ·rcases qas h with ⟨b,e,g1,g2⟩ | ⟨k,g1,rfl⟩
    ·obtain ⟨i1,i2,i3,i4⟩:=qch hl d (.lv (n+1) a) _ (by show 1≤n+1;omega) (by exact ha) g1
     have i1:a<b:=i1
     have i3:e.length≤b-a:=i3
     have:=qch hl d (.lp n b e) r h1 i2 g2
     cases r with
     | ok c e2=>
       obtain ⟨j1,j2,j3,j4⟩:=this
       exact ⟨by show a<c;omega,j2,by show e2.length≤c-a;omega,j4 i4⟩
     | bad k=>
       obtain ⟨j1,j2⟩:=this
       have j1:b≤k:=j1
       exact ⟨by show a≤k;omega,j2⟩
    ·exact qch hl d (.lv (n+1) a) _ (by show 1≤n+1;omega) (by exact ha) g1
 | d+1,.lp n b e,r,h1,hb,h=>by
   have hb:b<l.length:=hb
   have h1:1≤n:=h1
   rw [go] at h
   split at h
   ·rename_i hs
    obtain ⟨o1,o2,o3⟩:=sgE_op hs h1
    have hb1:=qar hl hb (Ty.dflt ty85) (by rw [o3];decide)
    have hgood:∀ e2,goodE e2→goodE e→goodE (e++e2++[((sgE l b).1,0,[],[])]):=fun e2 h2 h=>h.bi h2 (may_op (by omega) o2) (by
     show opE (sgE l b).1=2
     unfold opE;(repeat' split)<;>omega)
    rcases qas h with ⟨c,e2,g1,g2⟩ | ⟨k,g1,rfl⟩
    ·obtain ⟨i1,i2,i3,i4⟩:=qch hl d (.lv (n+1) (b+1)) _ (by show 1≤n+1;omega) hb1 g1
     have i1:b+1<c:=i1
     have i3:e2.length≤c-(b+1):=i3
     split at g2
     ·cases g2
      exact ⟨by omega,i2,by simp;omega,hgood e2 i4⟩
     ·have:=qch hl d (.lp n c _) r h1 i2 g2
      cases r with
      | ok c' e'=>
        obtain ⟨j1,j2,j3,j4⟩:=this
        simp only [List.length_append,List.length_cons,List.length_nil] at j3
        exact ⟨by omega,j2,by omega,fun h=>j4 (hgood e2 i4 h)⟩
      | bad k=>
        obtain ⟨j1,j2⟩:=this
        have j1:c≤k:=j1
        exact ⟨by show b≤k;omega,j2⟩
    ·obtain ⟨j1,j2⟩:=qch hl d (.lv (n+1) (b+1)) _ (by show 1≤n+1;omega) hb1 g1
     have j1:b+1≤k:=j1
     exact ⟨by show b≤k;omega,j2⟩
   ·cases h
    exact ⟨Nat.le_refl _,hb,by omega,fun h=>h⟩
 | d+1,.un a,r,h1,ha,h=>by
   have ha:a<l.length:=ha
   obtain ⟨ht1,⟨ht2,ht3⟩,ht4⟩:=qdc hl ha (Ty.dflt ty85)
   have hnx:=qar hl ha (Ty.dflt ty85)
   have pre:∀ (op:Int),(op=4∨op=5)→(tkD l a).1=4→onOk (go l d (.un (a+1))) (fun b e=>some (.ok b (e++[(op,0,[],[])])))=some r→Bd l (.un a) r:=fun op hop h4 h=>by
    have hb1:=hnx (by rw [h4];decide)
    rcases qas h with ⟨c,e2,g1,g2⟩ | ⟨k,g1,rfl⟩
    ·obtain ⟨i1,i2,i3,i4⟩:=qch hl d (.un (a+1)) _ (by show 1≤6;omega) hb1 g1
     have i1:a+1<c:=i1
     have i3:e2.length≤c-(a+1):=i3
     cases g2
     refine ⟨by show a<c;omega,i2,by show _≤c-a;simp;omega,i4.un (may_op (by omega) (by omega)) ?_⟩
     show opE op=1
     unfold opE;(repeat' split)<;>omega
    ·obtain ⟨j1,j2⟩:=qch hl d (.un (a+1)) _ (by show 1≤6;omega) hb1 g1
     have j1:a+1≤k:=j1
     exact ⟨by show a≤k;omega,j2⟩
   rw [go] at h
   split at h
   ·rename_i hs;exact pre 4 (.inl rfl) (qb0 hs) h
   ·split at h
    ·rename_i hs;exact pre 5 (.inr rfl) (qb0 hs) h
    ·split at h
     ·rename_i hk
      have hb1:=hnx (by rw [hk];decide)
      have hn:=ht2 hk
      cases h
      refine ⟨by show a<a+1;omega,hb1,by show 1≤a+1-a;omega,goodE.nul (mayN hn) rfl⟩
     ·split at h
      ·rename_i hk
       have hb1:=hnx (by rw [hk];decide)
       have hn:=ht3 hk
       split at h
       ·rename_i hs
        have hb2:=qar hl hb1 (Ty.dflt ty85) (by rw [qb0 hs];decide)
        split at h
        ·rename_i hk2
         have hb3:=qar hl hb2 (Ty.dflt ty85) (by rw [hk2];decide)
         have hn2:=(qdc hl hb2 (Ty.dflt ty85)).2.1.2 hk2
         cases h
         refine ⟨by show a<a+3;omega,hb3,by show 1≤a+3-a;omega,goodE.nul (mayA hn hn2) rfl⟩
        ·cases h
         exact ⟨by show a≤a+2;omega,hb2⟩
       ·cases h
        refine ⟨by show a<a+1;omega,hb1,by show 1≤a+1-a;omega,goodE.nul (mayV hn) rfl⟩
      ·split at h
       ·rename_i hs
        have hb1:=hnx (by rw [qb0 hs];decide)
        rcases qas h with ⟨c,e2,g1,g2⟩ | ⟨k,g1,rfl⟩
        ·obtain ⟨i1,i2,i3,i4⟩:=qch hl d (.lv 1 (a+1)) _ (Nat.le_refl 1) hb1 g1
         have i1:a+1<c:=i1
         have i3:e2.length≤c-(a+1):=i3
         split at g2
         ·rename_i hs2
          have hb2:=qar hl i2 (Ty.dflt ty85) (by rw [qb0 hs2];decide)
          cases g2
          exact ⟨by show a<c+1;omega,hb2,by show _≤c+1-a;omega,i4⟩
         ·cases g2
          exact ⟨by show a≤c;omega,i2⟩
        ·obtain ⟨j1,j2⟩:=qch hl d (.lv 1 (a+1)) _ (Nat.le_refl 1) hb1 g1
         have j1:a+1≤k:=j1
         exact ⟨by show a≤k;omega,j2⟩
       ·cases h
        exact ⟨Nat.le_refl _,ha⟩
theorem PE.bd {s:PS} {r:PR} (h:PE l s r) (hl:toksOK l) (h1:1≤s.lvl) (ha:s.at<l.length):Bd l s r:=by
 obtain ⟨d,h⟩:=h.run
 exact qch hl d s r h1 ha h
end
abbrev TokS:=Int×List UInt8×Int
def strip (t:Tok):TokS:=(t.1,t.2.1,t.2.2.1)
def LexTo (s r:List UInt8) (ts:List TokS):Prop:=
 ∀ (f a:Nat) (out:List Tok),(s++r).length<f→∃ (f':Nat) (tks:List Tok),tks.map strip=ts∧r.length<f'∧lexGo f (s++r) a out=lexGo f' r (a+s.length) (out++tks)
theorem LexTo.nil (r:List UInt8):LexTo [] r []:=fun f a out h=>⟨f,[],rfl,h,by simp⟩
theorem LexTo.app {s1 s2 r:List UInt8} {t1 t2:List TokS} (h1:LexTo s1 (s2++r) t1) (h2:LexTo s2 r t2):LexTo (s1++s2) r (t1++t2):=fun f a out h=>by
 rw [List.append_assoc] at h
 obtain ⟨f1,k1,e1,g1,q1⟩:=h1 f a out h
 obtain ⟨f2,k2,e2,g2,q2⟩:=h2 f1 (a+s1.length) (out++k1) g1
 refine ⟨f2,k1++k2,by rw [List.map_append,e1,e2],g2,?_⟩
 rw [List.append_assoc,q1,q2,List.length_append,List.append_assoc,Nat.add_assoc]
theorem LexTo.blank {b:UInt8} (hb:blankP b=true) (r:List UInt8):LexTo [b] r []:=fun f a out h=>by
 obtain ⟨g,rfl⟩:∃ g,f=g+1:=⟨f-1,by omega⟩
 refine ⟨g,[],rfl,by simp at h;omega,?_⟩
 simp only [List.cons_append,List.nil_append,lexGo,hb,if_true,List.length_cons,List.length_nil,List.append_nil]
theorem LexTo.tok {b:UInt8} {s r:List UInt8} {k n:Int} (ht:tokS (b::(s++r))=some (k,b::s,n)) (hb:blankP b=false):LexTo (b::s) r [(k,b::s,n)]:=fun f a out h=>by
 obtain ⟨g,rfl⟩:∃ g,f=g+1:=⟨f-1,by omega⟩
 refine ⟨g,[(k,b::s,n,(a:Int))],rfl,by simp at h;omega,?_⟩
 have hd:List.drop (b::s).length (b::(s++r))=r:=by
  rw [←List.cons_append,List.drop_left]
 simp only [List.cons_append,lexGo,hb,ht,Bool.false_eq_true,if_false,hd]
theorem qb8 {b:UInt8} {r w:List UInt8} (h1:digitP' b=false) (h2:lowerP b=false) (h3:letterP b=false) (hs:signS (b::r)=w) (hw:w≠[]):tokS (b::r)=some (4,w,0):=by
 simp only [tokS,h1,h2,h3,hs,hw,Bool.false_eq_true,if_false]
theorem signS_two {p:List UInt8} {r:List UInt8} (h:p=[60,61]∨p=[62,61]∨p=[61,61]∨p=[33,61]∨p=[38,38]∨p=[124,124]∨p=[45,62]):signS (p++r)=p:=by
 rcases h with h | h | h | h | h | h | h<;>subst h<;>simp [signS,twos]
theorem qby {p:List UInt8} (r:List UInt8) (h:p=[60,61]∨p=[62,61]∨p=[61,61]∨p=[33,61]∨p=[38,38]∨p=[124,124]∨p=[45,62]):LexTo p r [(4,p,0)]:=by
 have hs:=signS_two (r:=r) h
 rcases h with h | h | h | h | h | h | h<;>subst h<;>exact LexTo.tok (qb8 rfl rfl rfl hs (by simp)) rfl
theorem signS_one {c:UInt8} {r:List UInt8} (h:c=40∨c=41∨c=91∨c=93∨c=64):signS (c::r)=[c]:=by
 have h2:twos.find? (fun p=>decide (1<(c::r).length) && ((c::r).take 2 == p))=none:=by
  rw [List.find?_eq_none]
  intro p hp
  simp only [twos,List.mem_cons,List.not_mem_nil,or_false] at hp
  rcases h with h | h | h | h | h<;>subst h<;>rcases hp with hp | hp | hp | hp | hp | hp | hp<;>subst hp<;>simp
 unfold signS
 rw [h2]
 rcases h with h | h | h | h | h<;>subst h<;>simp [ones]
theorem qdn {c:UInt8} (r:List UInt8) (h:c=40∨c=41∨c=91∨c=93∨c=64):LexTo [c] r [(4,[c],0)]:=by
 have hs:=signS_one (r:=r) h
 rcases h with h | h | h | h | h<;>subst h<;>exact LexTo.tok (s:=[]) (qb8 rfl rfl rfl hs (by simp)) rfl
theorem signS_oneq {c d:UInt8} {r:List UInt8} (h:c=33∨c=60∨c=62) (hd:d≠61):signS (c::d::r)=[c]:=by
 have h2:twos.find? (fun p=>decide (1<(c::d::r).length) && ((c::d::r).take 2 == p))=none:=by
  rw [List.find?_eq_none]
  intro p hp
  simp only [twos,List.mem_cons,List.not_mem_nil,or_false] at hp
  rcases h with h | h | h<;>subst h<;>rcases hp with hp | hp | hp | hp | hp | hp | hp<;>subst hp<;>simp [hd]
 unfold signS
 rw [h2]
 rcases h with h | h | h<;>subst h<;>simp [ones]
theorem qdd {c d:UInt8} (r:List UInt8) (h:c=33∨c=60∨c=62) (hd:d≠61):LexTo [c] (d::r) [(4,[c],0)]:=by
 have hs:=signS_oneq (r:=r) h hd
 rcases h with h | h | h<;>subst h<;>exact LexTo.tok (s:=[]) (qb8 rfl rfl rfl hs (by simp)) rfl
theorem qb9 {c:UInt8} (r:List UInt8) (h:c=88∨c=70∨c=71∨c=85∨c=82):LexTo [c] r [(3,[c],0)]:=by
 rcases h with h | h | h | h | h<;>subst h<;>exact LexTo.tok (s:=[]) rfl rfl
def noWord (r:List UInt8):Prop:=∀ (b:UInt8) (q:List UInt8),r=b::q→wordP b=false
theorem noWord.nil:noWord []:=fun b q h=>by cases h
theorem noWord.cons {b:UInt8} {q:List UInt8} (h:wordP b=false):noWord (b::q):=fun c p e=>by cases e;exact h
theorem tw_app {p:UInt8→Bool}:∀ (w r:List UInt8),w.all p=true→(∀ b q,r=b::q→p b=false)→(w++r).takeWhile p=w
 | [],[],_,_=>rfl
 | [],b::q,_,h=>by rw [List.nil_append,List.takeWhile_cons,h b q rfl];rfl
 | a::w,r,ha,h=>by
   simp only [List.all_cons,Bool.and_eq_true] at ha
   rw [List.cons_append,List.takeWhile_cons,ha.1,if_pos rfl,tw_app w r ha.2 h]
theorem lx_word {b:UInt8} {w:List UInt8} (r:List UInt8) (hb:lowerP b=true) (hn:digitP' b=false) (hk:blankP b=false) (hw:w.all wordP=true) (hl:w.length<8) (hr:noWord r):LexTo (b::w) r [(2,b::w,0)]:=by
 refine LexTo.tok ?_ hk
 have ht:(b::(w++r)).takeWhile wordP=b::w:=by
  rw [←List.cons_append]
  exact tw_app (b::w) r (by rw [List.all_cons,hw];simp [wordP,hb]) hr
 simp only [tokS,hn,hb,ht,Bool.false_eq_true,if_false,if_true,List.length_cons]
 rw [if_pos (by omega)]
theorem lx_num {b:UInt8} (r:List UInt8) (hb:digitP' b=true) (hk:blankP b=false) (hr:noWord r):LexTo [b] r [(1,[b],valW [b])]:=by
 refine LexTo.tok (s:=[]) ?_ hk
 have ht:(b::([]++r)).takeWhile digitP'=[b]:=by
  have:=tw_app (p:=digitP') [b] r (by simp [hb]) (fun c q e=>by
   have:=hr c q e
   simp only [wordP,Bool.or_eq_false_iff] at this
   exact this.2)
  simpa using this
 simp only [tokS,hb,ht,if_true]
 rfl
inductive Sen where
 | con (b:Bool)
 | atm (i:Nat)
 | una (k:Int) (s:Sen)
 | bra (s:Sen)
 | bin (k:Int) (a b:Sen)
def unaW (k:Int):List UInt8:=if k=4 then [33] else if k=8 then [88,32] else if k=11 then [70,32] else [71,32]
def unaT (k:Int):TokS:=if k=4 then (4,[33],0) else if k=8 then (3,[88],0) else if k=11 then (3,[70],0) else (3,[71],0)
def binW (k:Int):List UInt8:=if k=5 then [32,38,38,32] else if k=6 then [32,124,124,32] else if k=7 then [32,45,62,32] else if k=9 then [32,85,32] else [32,82,32]
def binT (k:Int):TokS:=if k=5 then (4,[38,38],0) else if k=6 then (4,[124,124],0) else if k=7 then (4,[45,62],0) else if k=9 then (3,[85],0) else (3,[82],0)
def conW (b:Bool):List UInt8:=if b then [116,114,117,101] else [102,97,108,115,101]
def atmsW:List (List UInt8):=[[91,120,61,61,49,93],[91,112,64,97,93],[91,121,60,49,93],[91,113,64,98,38,38,120,62,48,93],[91,120,61,61,121,93],[91,112,64,98,93]]
def atmsT:List (List TokS):=[[(2,[120],0),(4,[61,61],0),(1,[49],1),(4,[93],0)],[(2,[112],0),(4,[64],0),(2,[97],0),(4,[93],0)],[(2,[121],0),(4,[60],0),(1,[49],1),(4,[93],0)],
 [(2,[113],0),(4,[64],0),(2,[98],0),(4,[38,38],0),(2,[120],0),(4,[62],0),(1,[48],0),(4,[93],0)],[(2,[120],0),(4,[61,61],0),(2,[121],0),(4,[93],0)],[(2,[112],0),(4,[64],0),(2,[98],0),(4,[93],0)]]
def Sen.text:Sen→List UInt8
 | .con b=>conW b
 | .atm i=>atmsW.getD i []
 | .una k s=>unaW k++s.text
 | .bra s=>[40]++(s.text++[41])
 | .bin k a b=>a.text++(binW k++b.text)
def Sen.toks:Sen→List TokS
 | .con b=>[(2,conW b,0)]
 | .atm i=>(4,[91],0)::atmsT.getD i []
 | .una k s=>unaT k::s.toks
 | .bra s=>(4,[40],0)::(s.toks++[(4,[41],0)])
 | .bin k a b=>a.toks++(binT k::b.toks)
def lvK (k:Int):Nat:=if k=7 then 1 else if k=6 then 2 else if k=5 then 3 else 4
def Sen.lv:Sen→Nat
 | .bin k _ _=>lvK k
 | _=>5
def unaK (k:Int):Prop:=k=4∨k=8∨k=11∨k=12
def binK (k:Int):Prop:=k=5∨k=6∨k=7∨k=9∨k=10
def Sen.ok:Sen→Prop
 | .con _=>True
 | .atm i=>i<6
 | .una k s=>unaK k∧s.lv=5∧s.ok
 | .bra s=>s.ok
 | .bin k a b=>binK k∧lvK k<a.lv∧lvK k≤b.lv∧(lvK k=b.lv→lvK k=1∨lvK k=4)∧a.ok∧b.ok
theorem Sen.head:∀ s:Sen,s.ok→∃ (d:UInt8) (q:List UInt8),s.text=d::q∧d≠61
 | .con b,_=>by cases b<;>exact ⟨_,_,rfl,by decide⟩
 | .atm i,h=>by
   have h:i<6:=h
   match i,h with
   | 0,_ | 1,_ | 2,_ | 3,_ | 4,_ | 5,_=>exact ⟨_,_,rfl,by decide⟩
 | .una k s,h=>by
   obtain ⟨h1,_,_⟩:=h
   rcases h1 with rfl | rfl | rfl | rfl<;>exact ⟨_,_,rfl,by decide⟩
 | .bra s,_=>⟨_,_,rfl,by decide⟩
 | .bin k a b,h=>by
   obtain ⟨d,q,e,hd⟩:=a.head h.2.2.2.2.1
   exact ⟨d,q++(binW k++b.text),by simp only [Sen.text,e,List.cons_append],hd⟩
theorem lx_una {k:Int} (hk:unaK k) {s r:List UInt8} (hs:∃ (d:UInt8) (q:List UInt8),s=d::q∧d≠61):LexTo (unaW k) (s++r) [unaT k]:=by
 obtain ⟨d,q,rfl,hd⟩:=hs
 rcases hk with rfl | rfl | rfl | rfl
 ·exact qdd (q++r) (.inl rfl) hd
 ·exact (qb9 _ (.inl rfl)).app (LexTo.blank (b:=32) rfl _)
 ·exact (qb9 _ (.inr (.inl rfl))).app (LexTo.blank (b:=32) rfl _)
 ·exact (qb9 _ (.inr (.inr (.inl rfl)))).app (LexTo.blank (b:=32) rfl _)
theorem lx_bin {k:Int} (hk:binK k) (r:List UInt8):LexTo (binW k) r [binT k]:=by
 have bl:=fun r=>LexTo.blank (b:=32) rfl r
 rcases hk with rfl | rfl | rfl | rfl | rfl
 ·exact (bl _).app ((qby (p:=[38,38]) _ (by simp)).app (bl _))
 ·exact (bl _).app ((qby (p:=[124,124]) _ (by simp)).app (bl _))
 ·exact (bl _).app ((qby (p:=[45,62]) _ (by simp)).app (bl _))
 ·exact (bl _).app ((qb9 (c:=85) _ (by simp)).app (bl _))
 ·exact (bl _).app ((qb9 (c:=82) _ (by simp)).app (bl _))
theorem noWord.bin {k:Int} (hk:binK k) (r:List UInt8):noWord (binW k++r):=by
 rcases hk with rfl | rfl | rfl | rfl | rfl<;>exact noWord.cons rfl
theorem lx_con (b:Bool) {r:List UInt8} (hr:noWord r):LexTo (conW b) r [(2,conW b,0)]:=by
 cases b
 ·exact lx_word r rfl rfl rfl rfl (by decide) hr
 ·exact lx_word r rfl rfl rfl rfl (by decide) hr
theorem lx_w (c:UInt8) (r:List UInt8) (h:c=120∨c=121∨c=112∨c=113∨c=97∨c=98) (hr:noWord r):LexTo [c] r [(2,[c],0)]:=by
 rcases h with rfl | rfl | rfl | rfl | rfl | rfl<;>exact lx_word r rfl rfl rfl rfl (by decide) hr
theorem lx_atm {i:Nat} (hi:i<6) (r:List UInt8):LexTo (atmsW.getD i []) r ((4,[91],0)::atmsT.getD i []):=by
 have op:=fun r=>qdn (c:=91) r (by simp)
 have cl:=qdn (c:=93) r (by simp)
 have at_:=fun r=>qdn (c:=64) r (by simp)
 match i,hi with
 | 0,_=>exact (op _).app ((lx_w 120 _ (by simp) (noWord.cons rfl)).app ((qby (p:=[61,61]) _ (by simp)).app ((lx_num (b:=49) _ rfl rfl (noWord.cons rfl)).app cl)))
 | 1,_=>exact (op _).app ((lx_w 112 _ (by simp) (noWord.cons rfl)).app ((at_ _).app ((lx_w 97 _ (by simp) (noWord.cons rfl)).app cl)))
 | 2,_=>exact (op _).app ((lx_w 121 _ (by simp) (noWord.cons rfl)).app ((qdd (c:=60) _ (by simp) (by decide)).app ((lx_num (b:=49) _ rfl rfl (noWord.cons rfl)).app cl)))
 | 3,_=>exact (op _).app ((lx_w 113 _ (by simp) (noWord.cons rfl)).app ((at_ _).app ((lx_w 98 _ (by simp) (noWord.cons rfl)).app ((qby (p:=[38,38]) _ (by simp)).app ((lx_w 120 _ (by simp) (noWord.cons rfl)).app ((qdd (c:=62) _ (by simp) (by decide)).app ((lx_num (b:=48) _ rfl rfl (noWord.cons rfl)).app cl)))))))
 | 4,_=>exact (op _).app ((lx_w 120 _ (by simp) (noWord.cons rfl)).app ((qby (p:=[61,61]) _ (by simp)).app ((lx_w 121 _ (by simp) (noWord.cons rfl)).app cl)))
 | 5,_=>exact (op _).app ((lx_w 112 _ (by simp) (noWord.cons rfl)).app ((at_ _).app ((lx_w 98 _ (by simp) (noWord.cons rfl)).app cl)))
theorem Sen.lex:∀ (s:Sen),s.ok→∀ r,noWord r→LexTo s.text r s.toks
 | .con b,_,r,hr=>lx_con b hr
 | .atm i,h,r,_=>lx_atm h r
 | .una k s,h,r,hr=>(lx_una h.1 (s.head h.2.2)).app (s.lex h.2.2 r hr)
 | .bra s,h,r,hr=>(qdn (c:=40) _ (by simp)).app ((s.lex h _ (noWord.cons rfl)).app (qdn (c:=41) r (by simp)))
 | .bin k a b,h,r,hr=>by
   obtain ⟨hk,_,_,_,ha,hb⟩:=h
   refine (a.lex ha _ ?_).app ((lx_bin hk _).app (b.lex hb r hr))
   rw [List.append_assoc]
   exact noWord.bin hk _
theorem Sen.lexS (s:Sen) (h:s.ok) (hl:s.text.length≤60000):∃ (tks:List Tok) (x:Int),lexS s.text=(0,0,tks++[(5,[],0,x)])∧tks.map strip=s.toks:=by
 obtain ⟨f',tks,h1,h2,h3⟩:=s.lex h [] noWord.nil (s.text.length+1) 0 [] (by simp)
 rw [List.append_nil] at h3
 obtain ⟨g,rfl⟩:∃ g,f'=g+1:=⟨f'-1,by simp at h2;omega⟩
 refine ⟨tks,((0+s.text.length:Nat):Int),?_,h1⟩
 unfold Av.lexS
 rw [if_neg (by omega),h3]
 rfl
inductive Et where
 | nul (t:Trm)
 | un (k:Int) (x:Et)
 | bi (k:Int) (x y:Et)
def lvO (k:Int):Nat:=if k=6 then 5 else if k=7∨k=8 then 4 else if k=15 then 2 else if k=16 then 1 else 3
theorem qex (k:Int):1≤lvO k∧lvO k≤5:=by unfold lvO;(repeat' split)<;>omega
def Et.flat:Et→List Trm
 | .nul t=>[t]
 | .un k x=>x.flat++[(k,0,[],[])]
 | .bi k x y=>x.flat++y.flat++[(k,0,[],[])]
def nulT (t:Trm):Prop:=mayT t=true∧(t.1=1∨t.1=2∨t.1=3)
def Et.wf:Et→Prop
 | .nul t=>nulT t
 | .un k x=>(k=4∨k=5)∧x.wf
 | .bi k x y=>(6≤k∧k≤16)∧x.wf∧y.wf
def Et.lv:Et→Nat
 | .nul _=>7
 | .un _ _=>6
 | .bi k _ _=>lvO k
theorem nulT.op {t:Trm} (h:nulT t):opE t.1=0:=by
 obtain ⟨_,h | h | h⟩:=h<;>rw [h]<;>rfl
theorem opE_un {k:Int} (h:k=4∨k=5):opE k=1:=by rcases h with rfl | rfl<;>rfl
theorem opE_bi {k:Int} (h:6≤k∧k≤16):opE k=2:=by unfold opE;(repeat' split)<;>omega
theorem Et.good:∀ (t:Et),t.wf→goodE t.flat
 | .nul t,h=>goodE.nul h.1 h.op
 | .un k x,h=>(x.good h.2).un (may_op (by have:=h.1;omega) (by have:=h.1;omega)) (opE_un h.1)
 | .bi k x y,h=>(x.good h.2.1).bi (y.good h.2.2) (may_op (by have:=h.1.1;omega) h.1.2) (opE_bi h.1)
theorem qbu {α:Type} {l l':List α} {x x':α} (h:l++[x]=l'++[x']):l=l'∧x=x':=by
 have:=List.append_inj' h rfl
 exact ⟨this.1,by simpa using this.2⟩
theorem Et.inj:∀ (t t':Et) (l l':List Trm),t.wf→t'.wf→l++t.flat=l'++t'.flat→l=l'∧t=t':=by
 have kind:∀ {t:Trm} {k:Int},nulT t→t=(k,0,[],[])→4≤k→False:=fun {t k} h e hk=>by
  have h1:t.1=k:=congrArg (·.1) e
  have h2:=h.2
  omega
 intro t
 induction t with
 | nul t=>
   intro t' l l' h h' e
   cases t' with
   | nul t'=>
     obtain ⟨e1,e2⟩:=qbu e
     exact ⟨e1,by rw [e2]⟩
   | un k x=>
     simp only [Et.flat,←List.append_assoc] at e
     exact (kind h (qbu e).2 (by rcases h'.1 with rfl | rfl<;>decide)).elim
   | bi k x y=>
     simp only [Et.flat,←List.append_assoc] at e
     exact (kind h (qbu e).2 (by have:=h'.1.1;omega)).elim
 | un k x ih=>
   intro t' l l' h h' e
   cases t' with
   | nul t'=>
     simp only [Et.flat,←List.append_assoc] at e
     exact (kind h' (qbu e).2.symm (by rcases h.1 with rfl | rfl<;>decide)).elim
   | un k' x'=>
     simp only [Et.flat,←List.append_assoc] at e
     obtain ⟨e1,e2⟩:=qbu e
     have hk:k=k':=congrArg (·.1) e2
     obtain ⟨e3,e4⟩:=ih x' l l' h.2 h'.2 e1
     exact ⟨e3,by rw [hk,e4]⟩
   | bi k' x' y'=>
     simp only [Et.flat,←List.append_assoc] at e
     obtain ⟨e1,e2⟩:=qbu e
     have hk:k=k':=congrArg (·.1) e2
     have h1:=h.1
     have h2:=h'.1
     omega
 | bi k x y ihx ihy=>
   intro t' l l' h h' e
   cases t' with
   | nul t'=>
     simp only [Et.flat,←List.append_assoc] at e
     exact (kind h' (qbu e).2.symm (by have:=h.1.1;omega)).elim
   | un k' x'=>
     simp only [Et.flat,←List.append_assoc] at e
     obtain ⟨e1,e2⟩:=qbu e
     have hk:k=k':=congrArg (·.1) e2
     have h1:=h.1
     have h2:=h'.1
     omega
   | bi k' x' y'=>
     simp only [Et.flat,←List.append_assoc] at e
     obtain ⟨e1,e2⟩:=qbu e
     have hk:k=k':=congrArg (·.1) e2
     obtain ⟨e3,e4⟩:=ihy y' _ _ h.2.2 h'.2.2 e1
     obtain ⟨e5,e6⟩:=ihx x' l l' h.2.1 h'.2.1 e3
     exact ⟨e5,by rw [hk,e4,e6]⟩
def eflats:List Et→List Trm
 | []=>[]
 | t::ts=>eflats ts++t.flat
def ewfs:List Et→Prop
 | []=>True
 | t::ts=>t.wf∧ewfs ts
theorem qcr:∀ (e:List Trm) (ts:List Et) (n:Int),ewfs ts→eGo e (ts.length:Nat)=some n→∃ us:List Et,ewfs us∧(us.length:Int)=n∧eflats us=eflats ts++e
 | [],ts,n,h,hg=>⟨ts,h,Option.some.inj hg,by simp⟩
 | p::r,ts,n,h,hg=>by
   simp only [eGo] at hg
   split at hg
   ·cases hg
   ·rename_i hc
    simp only [Bool.or_eq_true,Bool.not_eq_true',decide_eq_true_eq,not_or,Bool.not_eq_false] at hc
    obtain ⟨hm,hd⟩:=hc
    have hop:=mayT_op hm
    have hle:=opE_le p.1
    have hk:opE p.1=0∨opE p.1=1∨opE p.1=2:=by omega
    have hz:opE p.1≠0→p=(p.1,0,[],[]):=fun h0=>by
     have hn:¬ p.1=1∧¬ p.1=2∧¬ p.1=3:=⟨fun h=>h0 (by rw [h];rfl),fun h=>h0 (by rw [h];rfl),fun h=>h0 (by rw [h];rfl)⟩
     unfold mayT at hm
     rw [if_neg hn.1,if_neg hn.2.1,if_neg hn.2.2] at hm
     simp only [Bool.and_eq_true,decide_eq_true_eq,beq_iff_eq] at hm
     obtain ⟨a,b,c,d⟩:=p
     have h1:b=0:=hm.1.1.2
     have h2:c=[]:=hm.1.2
     have h3:d=[]:=hm.2
     rw [h1,h2,h3]
    rcases hk with h0 | h1 | h2
    ·have ht:nulT p:=⟨hm,by unfold opE at h0;(repeat' split at h0)<;>omega⟩
     rw [h0] at hg
     obtain ⟨us,u1,u2,u3⟩:=qcr r (.nul p::ts) n ⟨ht,h⟩ (by rw [←hg];congr 1<;>simp)
     exact ⟨us,u1,u2,by rw [u3];simp [eflats,Et.flat]⟩
    ·cases ts with
     | nil=>simp at hd;omega
     | cons x ts=>
       rw [h1] at hg
       have hw:(Et.un p.1 x).wf:=⟨by unfold opE at h1;(repeat' split at h1)<;>omega,h.1⟩
       obtain ⟨us,u1,u2,u3⟩:=qcr r (.un p.1 x::ts) n ⟨hw,h.2⟩ (by rw [←hg];congr 1<;>simp)
       refine ⟨us,u1,u2,?_⟩
       rw [u3]
       have:=hz (by omega)
       simp only [eflats,Et.flat]
       rw [←this]
       simp
    ·cases ts with
     | nil=>simp at hd;omega
     | cons y ts=>
       cases ts with
       | nil=>simp at hd;omega
       | cons x ts=>
         rw [h2] at hg
         have hw:(Et.bi p.1 x y).wf:=⟨by unfold opE at h2;(repeat' split at h2)<;>omega,h.2.1,h.1⟩
         obtain ⟨us,u1,u2,u3⟩:=qcr r (.bi p.1 x y::ts) n ⟨hw,h.2.2⟩ (by rw [←hg];congr 1;simp;omega)
         refine ⟨us,u1,u2,?_⟩
         rw [u3]
         have:=hz (by omega)
         simp only [eflats,Et.flat]
         rw [←this]
         simp
theorem rightE_tree {e:List Trm} (h:rightE e=true):∃ t:Et,t.wf∧e=t.flat∧e.length≤30:=by
 unfold rightE fin30 at h
 cases hg:eGo e 0 with
 | none=>rw [hg] at h;cases h
 | some d=>
   rw [hg] at h
   simp only [Bool.and_eq_true,decide_eq_true_eq] at h
   obtain ⟨us,u1,u2,u3⟩:=qcr e [] d trivial hg
   rw [h.1] at u2
   match us,u1,u2,u3 with
   | [t],u1,_,u3=>exact ⟨t,u1.1,by simpa [eflats] using u3.symm,h.2⟩
theorem qeb {t:Et} (h:t.wf) (hl:t.flat.length≤30):rightE t.flat=true:=(t.good h).right hl
def opW (k:Int):List UInt8:=if k=6 then [42] else if k=7 then [43] else if k=8 then [45] else if k=9 then [60] else if k=10 then [60,61] else if k=11 then [62] else if k=12 then [62,61] else if k=13 then [61,61] else if k=14 then [33,61] else if k=15 then [38,38] else [124,124]
def unW (k:Int):List UInt8:=if k=4 then [33] else [45]
theorem qcs {k:Int} (h:6≤k∧k≤16):k=6∨k=7∨k=8∨k=9∨k=10∨k=11∨k=12∨k=13∨k=14∨k=15∨k=16:=by omega
theorem sgW_op {k:Int} (h:6≤k∧k≤16):sgW (opW k)=(k,lvO k):=by
 rcases qcs h with rfl | rfl | rfl | rfl | rfl | rfl | rfl | rfl | rfl | rfl | rfl<;>rfl
def lfO (n:Nat):Nat:=if n=3 then 4 else n
inductive De where
 | nul (t:Trm) (w:List UInt8)
 | un (k:Int) (d:De)
 | bi (k:Int) (a b:De)
 | bra (d:De)
def De.tree:De→Et
 | .nul t _=>.nul t
 | .un k d=>.un k d.tree
 | .bi k a b=>.bi k a.tree b.tree
 | .bra d=>d.tree
def De.lv:De→Nat
 | .nul _ _=>7
 | .un _ _=>6
 | .bi k _ _=>lvO k
 | .bra _=>7
def De.ok:De→Prop
 | .nul t _=>nulT t
 | .un k d=>(k=4∨k=5)∧6≤d.lv∧d.ok
 | .bi k a b=>(6≤k∧k≤16)∧lfO (lvO k)≤a.lv∧lvO k+1≤b.lv∧a.ok∧b.ok
 | .bra d=>d.ok
def nulK (t:Trm) (w:List UInt8):List TokS:=if t.1=1 then [(1,w,t.2.1)] else if t.1=2 then [(2,t.2.2.1,0)] else [(2,t.2.2.1,0),(4,[64],0),(2,t.2.2.2,0)]
def De.toks:De→List TokS
 | .nul t w=>nulK t w
 | .un k d=>(4,unW k,0)::d.toks
 | .bi k a b=>a.toks++((4,opW k,0)::b.toks)
 | .bra d=>(4,[40],0)::(d.toks++[(4,[41],0)])
theorem De.tree_wf:∀ (d:De),d.ok→d.tree.wf
 | .nul t _,h=>h
 | .un k d,h=>⟨h.1,d.tree_wf h.2.2⟩
 | .bi k a b,h=>⟨h.1,a.tree_wf h.2.2.2.1,b.tree_wf h.2.2.2.2⟩
 | .bra d,h=>d.tree_wf h
def PreT:List TokS→List Tok→Nat→Prop
 | [],_,_=>True
 | t::ts,l,a=>(a<l.length∧strip (tkD l a)=t)∧PreT ts l (a+1)
theorem PreT.app:∀ (s t:List TokS) (l:List Tok) (a:Nat),PreT (s++t) l a→PreT s l a∧PreT t l (a+s.length)
 | [],t,l,a,h=>⟨trivial,h⟩
 | x::s,t,l,a,h=>by
   obtain ⟨h1,h2⟩:=PreT.app s t l (a+1) h.2
   refine ⟨⟨h.1,h1⟩,?_⟩
   rw [List.length_cons,show a+(s.length+1)=a+1+s.length by omega]
   exact h2
theorem tkS_1 {l:List Tok} {a:Nat} {k n:Int} {w:List UInt8} (h:strip (tkD l a)=(k,w,n)):(tkD l a).1=k:=congrArg (·.1) h
theorem tkS_2 {l:List Tok} {a:Nat} {k n:Int} {w:List UInt8} (h:strip (tkD l a)=(k,w,n)):(tkD l a).2.1=w:=congrArg (·.2.1) h
theorem tkS_3 {l:List Tok} {a:Nat} {k n:Int} {w:List UInt8} (h:strip (tkD l a)=(k,w,n)):(tkD l a).2.2.1=n:=congrArg (·.2.2) h
theorem qbe {l:List Tok} {a:Nat} {n:Int} {w:List UInt8} (h:strip (tkD l a)=(4,w,n)):isS l a w=true:=by
 unfold isS
 rw [tkS_1 h,tkS_2 h]
 simp
theorem sgE_of {l:List Tok} {a:Nat} {k n:Int} (hk:6≤k∧k≤16) (h:strip (tkD l a)=(4,opW k,n)):sgE l a=(k,lvO k):=by
 unfold sgE
 rw [if_pos (tkS_1 h),tkS_2 h,sgW_op hk]
section
variable {l:List Tok}
theorem lv_down {a b:Nat} {e:List Trm}:∀ (k n:Nat),n+k≤6→(sgE l b).2<n→PE l (.lv (n+k) a) (.ok b e)→PE l (.lv n a) (.ok b e)
 | 0,n,_,_,h=>h
 | k+1,n,h6,hs,h=>by
   have h':PE l (.lv (n+1+k) a) (.ok b e):=by rw [show n+1+k=n+(k+1) by omega];exact h
   exact pe_lv (by omega) (lv_down k (n+1) (by omega) (by omega) h') (pe_stop (by omega))
theorem lv_to {a b m n:Nat} {e:List Trm} (h:PE l (.lv m a) (.ok b e)) (hm:m≤6) (hn:n≤m) (hs:(sgE l b).2<n):PE l (.lv n a) (.ok b e):=
 lv_down (m-n) n (by omega) hs (by rw [show n+(m-n)=m by omega];exact h)
theorem De.read (hend:∀ a,a<l.length→True):∀ (d:De),d.ok→∀ a,PreT d.toks l a→¬ isS l (a+d.toks.length) [64]=true→
  (6≤d.lv→PE l (.un a) (.ok (a+d.toks.length) d.tree.flat))∧
  (∀ n,1≤n→n≤6→n≤d.lv→(sgE l (a+d.toks.length)).2<n→PE l (.lv n a) (.ok (a+d.toks.length) d.tree.flat))∧
  (∀ n r,1≤n→n≤5→n≠3→n≤d.lv→(sgE l (a+d.toks.length)).2<n+1→PE l (.lp n (a+d.toks.length) d.tree.flat) r→PE l (.lv n a) r):=by
 have alone:∀ {a b:Nat} {e:List Trm},PE l (.un a) (.ok b e)→(∀ n,1≤n→n≤6→(sgE l b).2<n→PE l (.lv n a) (.ok b e))∧(∀ n r,1≤n→n≤5→(sgE l b).2<n+1→PE l (.lp n b e) r→PE l (.lv n a) r):=fun {a b e} h=>by
  have h6:=pe_six h
  exact ⟨fun n h1 h2 hs=>lv_to h6 (Nat.le_refl 6) h2 hs,fun n r h1 h2 hs hr=>pe_lv (by omega) (lv_to h6 (Nat.le_refl 6) (by omega) hs) hr⟩
 intro d
 induction d with
 | nul t w=>
   intro h a hp hn
   have hu:PE l (.un a) (.ok (a+(De.nul t w).toks.length) (De.nul t w).tree.flat):=by
    obtain ⟨hm,hk | hk | hk⟩:=h
    ·have et:(De.nul t w).toks=[(1,w,t.2.1)]:=if_pos hk
     rw [et] at hp ⊢
     have:=pe_num (tkS_1 hp.1.2)
     rw [tkS_3 hp.1.2] at this
     have e:t=(1,t.2.1,[],[]):=by
      unfold mayT at hm
      rw [if_pos hk] at hm
      simp only [Bool.and_eq_true,beq_iff_eq] at hm
      obtain ⟨a,b,c,d⟩:=t
      have h1:a=1:=hk
      have h2:c=[]:=hm.1.2
      have h3:d=[]:=hm.2
      rw [h1,h2,h3]
     show PE l _ (.ok (a+1) [t])
     rw [e]
     exact this
    ·have et:(De.nul t w).toks=[(2,t.2.2.1,0)]:=by show nulK t w=_;unfold nulK;rw [if_neg (by rw [hk];decide),if_pos hk]
     rw [et] at hp hn ⊢
     have:=pe_word (tkS_1 hp.1.2)
     have hn:¬ isS l (a+1) [64]=true:=hn
     rw [if_neg hn,tkS_2 hp.1.2] at this
     have e:t=(2,0,t.2.2.1,[]):=by
      unfold mayT at hm
      rw [if_neg (by rw [hk];decide),if_pos hk] at hm
      simp only [Bool.and_eq_true,beq_iff_eq,decide_eq_true_eq] at hm
      obtain ⟨a,b,c,d⟩:=t
      have h1:a=2:=hk
      have h2:b=0:=hm.1.1
      have h3:d=[]:=hm.2
      rw [h1,h2,h3]
     show PE l _ (.ok (a+1) [t])
     rw [e]
     exact this
    ·have et:(De.nul t w).toks=[(2,t.2.2.1,0),(4,[64],0),(2,t.2.2.2,0)]:=by show nulK t w=_;unfold nulK;rw [if_neg (by rw [hk];decide),if_neg (by rw [hk];decide)]
     rw [et] at hp ⊢
     have:=pe_word (tkS_1 hp.1.2)
     rw [if_pos (qbe hp.2.1.2),if_pos (tkS_1 hp.2.2.1.2),tkS_2 hp.1.2,tkS_2 hp.2.2.1.2] at this
     have e:t=(3,0,t.2.2.1,t.2.2.2):=by
      unfold mayT at hm
      rw [if_neg (by rw [hk];decide),if_neg (by rw [hk];decide),if_pos hk] at hm
      simp only [Bool.and_eq_true,decide_eq_true_eq] at hm
      obtain ⟨a,b,c,d⟩:=t
      have h1:a=3:=hk
      have h2:b=0:=hm.1.1
      rw [h1,h2]
     show PE l _ (.ok (a+3) [t])
     rw [e]
     exact this
   obtain ⟨h1,h2⟩:=alone hu
   exact ⟨fun _=>hu,fun n a b _ c=>h1 n a b c,fun n r a b _ _ c=>h2 n r a b c⟩
 | un k d ih=>
   intro h a hp hn
   obtain ⟨hk,h6,hd⟩:=h
   have el:a+(De.un k d).toks.length=a+1+d.toks.length:=by simp only [De.toks,List.length_cons];omega
   rw [el] at hn ⊢
   have hx:=(ih hd (a+1) hp.2 hn).1 h6
   have hu:PE l (.un a) (.ok (a+1+d.toks.length) (De.un k d).tree.flat):=by
    rcases hk with rfl | rfl
    ·exact pe_not (qbe hp.1.2) hx
    ·exact pe_neg (qbe hp.1.2) hx
   obtain ⟨h1,h2⟩:=alone hu
   exact ⟨fun _=>hu,fun n a b _ c=>h1 n a b c,fun n r a b _ _ c=>h2 n r a b c⟩
 | bra d ih=>
   intro h a hp hn
   have hp2:=PreT.app d.toks [(4,[41],0)] l (a+1) hp.2
   have el:a+(De.bra d).toks.length=a+1+d.toks.length+1:=by simp only [De.toks,List.length_cons,List.length_append,List.length_nil];omega
   rw [el] at hn ⊢
   have hc:=hp2.2.1.2
   have hs0:(sgE l (a+1+d.toks.length)).2=0:=by
    unfold sgE
    rw [if_pos (tkS_1 hc),tkS_2 hc]
    rfl
   have h1v:1≤d.lv:=by
    cases d with
    | bi k x y=>exact (qex k).1
    | nul _ _=>show 1≤7;omega
    | un _ _=>show 1≤6;omega
    | bra _=>show 1≤7;omega
   have hx:=(ih h (a+1) hp2.1 (qbh (qbe hc) (by decide))).2.1 1 (Nat.le_refl 1) (by omega) h1v (by omega)
   have hu:PE l (.un a) (.ok (a+1+d.toks.length+1) (De.bra d).tree.flat):=by
    have:=pe_bra (qbe hp.1.2) hx
    rw [if_pos (qbe hc)] at this
    exact this
   obtain ⟨h1,h2⟩:=alone hu
   exact ⟨fun _=>hu,fun n a b _ c=>h1 n a b c,fun n r a b _ _ c=>h2 n r a b c⟩
 | bi k x y ihx ihy=>
   intro h a hp hn
   obtain ⟨hk,hxl,hyl,hx,hy⟩:=h
   have hp1:=PreT.app x.toks ((4,opW k,0)::y.toks) l a hp
   have el:a+(De.bi k x y).toks.length=a+x.toks.length+1+y.toks.length:=by simp only [De.toks,List.length_cons,List.length_append];omega
   rw [el] at hn ⊢
   have hop:=hp1.2.1.2
   have hsg:=sgE_of hk hop
   have hl5:=qex k
   have hs2:(sgE l (a+x.toks.length)).2=lvO k:=by rw [hsg]
   have hno:¬ isS l (a+x.toks.length) [64]=true:=by
    refine qbh (qbe hop) fun h=>?_
    have:=sgW_op hk
    rw [h] at this
    have h2:(0:Int)=k:=congrArg (·.1) this
    omega
   have IX:=ihx hx a hp1.1 hno
   have IY:=ihy hy (a+x.toks.length+1) hp1.2.2 hn
   have hflat:(De.bi k x y).tree.flat=x.tree.flat++y.tree.flat++[((sgE l (a+x.toks.length)).1,0,[],[])]:=by rw [hsg];rfl
   have own:lvO k≠3→∀ r,(sgE l (a+x.toks.length+1+y.toks.length)).2<lvO k+1→PE l (.lp (lvO k) (a+x.toks.length+1+y.toks.length) (De.bi k x y).tree.flat) r→PE l (.lv (lvO k) a) r:=fun h3 r hs hr=>by
    have hlf:lfO (lvO k)=lvO k:=if_neg h3
    refine IX.2.2 (lvO k) r hl5.1 hl5.2 h3 (by omega) (by omega) ?_
    refine pe_more h3 hs2 (IY.2.1 (lvO k+1) (by omega) (by omega) hyl hs) ?_
    rw [←hflat]
    exact hr
   have own3:(sgE l (a+x.toks.length+1+y.toks.length)).2<lvO k+1→(lvO k≠3→(sgE l (a+x.toks.length+1+y.toks.length)).2≠lvO k)→PE l (.lv (lvO k) a) (.ok (a+x.toks.length+1+y.toks.length) (De.bi k x y).tree.flat):=fun hs hs'=>by
    by_cases h3:lvO k=3
    ·have hlf:lfO (lvO k)=4:=if_pos h3
     have hx4:=IX.2.1 4 (by omega) (by omega) (by omega) (by omega)
     have hy4:=IY.2.1 4 (by omega) (by omega) (by omega) (by omega)
     rw [hflat,h3]
     exact pe_lv (by omega) hx4 (pe_three (by omega) hy4)
    ·exact own h3 _ hs (pe_stop (hs' h3))
   refine ⟨fun h6=>?_,fun n h1 h6 hlv hs=>?_,fun n r h1 h5 h3 hlv hs hr=>?_⟩
   ·have h6:6≤lvO k:=h6
    omega
   ·have hlv:n≤lvO k:=hlv
    exact lv_to (own3 (by omega) (fun _=>by omega)) (by omega) hlv hs
   ·have hlv:n≤lvO k:=hlv
    by_cases hq:n=lvO k
    ·subst hq
     exact own h3 r hs hr
    ·exact pe_lv (by omega) (lv_to (own3 (by omega) (fun _=>by omega)) (by omega) (by omega) hs) hr
end
theorem sgW_lv (w:List UInt8):sgW w=(0,0)∨lvO (sgW w).1=(sgW w).2:=by
 unfold sgW
 (repeat' split)<;>decide
theorem lvl_op {l:List Tok} {b n:Nat} (hs:(sgE l b).2=n) (h1:1≤n):lvO (sgE l b).1=n:=by
 unfold sgE at hs ⊢
 by_cases h4:(tkD l b).1=4
 ·rw [if_pos h4] at hs ⊢
  rcases sgW_lv (tkD l b).2.1 with h | h
  ·rw [h] at hs;have hs:0=n:=hs;omega
  ·rw [h];exact hs
 ·rw [if_neg h4] at hs
  have hs:0=n:=hs
  omega
theorem wordLen {w:List UInt8} (h:isWordP w=true):w.length≤8:=by
 cases w with
 | nil=>simp
 | cons b r=>
   simp only [isWordP,Bool.and_eq_true,decide_eq_true_eq] at h
   simpa using h.2
def dgT (n:Int):List UInt8:=(itoaF n).getD []
theorem dgT_len (n:Int):(dgT n).length≤3:=by
 unfold dgT itoaF
 cases decide (0≤n) && decide (n<1000) with
 | false=>exact Nat.zero_le _
 | true=>
   cases decide (n<10) with
   | true=>exact (show 1≤3 by decide)
   | false=>
     cases decide (n<100) with
     | true=>exact (show 2≤3 by decide)
     | false=>exact (show 3≤3 by decide)
def leafW (t:Trm):List UInt8:=if t.1=1 then dgT t.2.1 else if t.1=2 then t.2.2.1 else t.2.2.1++[64]++t.2.2.2
theorem qci (k:Int):(opW k).length≤2:=by unfold opW;(repeat' split)<;>decide
theorem unW_len (k:Int):(unW k).length=1:=by unfold unW;split<;>rfl
theorem may_num' {t:Trm} (h:mayT t=true) (h1:t.1=1):0≤t.2.1∧t.2.1≤999:=by
 unfold mayT at h
 rw [if_pos h1] at h
 simp only [Bool.and_eq_true,decide_eq_true_eq] at h
 exact ⟨h.1.1.1,h.1.1.2⟩
section
variable {e:List Trm}
end
theorem run2_prog {p:UInt8→Bool} {c:Int→Option Bool} (hc:∀ b:UInt8,c (b.toNat:Int)=some (p b)) (s:List UInt8) (hs:s.length<900000):F178 c s=some (s.takeWhile p):=by
 have h:∀ (t i n:Nat),i+t=s.length→t<n→R178 c s n (.l0 i)=some (s.take i++(s.drop i).takeWhile p):=by
  intro t
  induction t with
  | zero=>
    intro i n hi hn
    cases n with
    | zero=>omega
    | succ n=>
      show T178 Ops.std c s _ some _=_
      unfold T178
      simp only [qah,qak,qaa,qab]
      rw [if_neg (by omega),if_pos (by omega),List.drop_eq_nil_of_le (show s.length≤i by omega)]
      simp
  | succ t ih=>
    intro i n hi hn
    cases n with
    | zero=>omega
    | succ n=>
      have hlt:i<s.length:=by omega
      show T178 Ops.std c s _ some _=_
      unfold T178
      have hw:IntKind.wrap IntKind.i64 ((i:Int)+1)=((i+1:Nat):Int):=qai (by omega)
      simp only [qah,qak,qaa,qab]
      rw [if_pos (by omega),if_pos (by omega),hc,ob_s,qco hlt]
      cases hp:p (s.getD i 0) with
      | true=>
        simp only [cond_true]
        rw [hw,ih (i+1) n (by omega) (by omega),List.takeWhile_cons_of_pos hp]
        have:s.take (i+1)=s.take i++[s.getD i 0]:=by
         rw [List.take_add_one]
         simp [List.getD_eq_getElem?_getD,List.getElem?_eq_getElem hlt]
        rw [this]
        simp
      | false=>
        simp only [cond_false]
        rw [if_pos (by omega),List.takeWhile_cons_of_neg (by rw [hp];decide)]
        simp
 show T178 Ops.std c s _ some none=_
 unfold T178
 have:=h s.length 0 1000000 (by omega) (by omega)
 rw [List.take_zero,List.drop_zero,List.nil_append] at this
 exact this
theorem runD_prog (s:List UInt8) (hs:s.length<900000):M178 s=some (s.takeWhile digitP'):=run2_prog qda s hs
theorem qey (l:List Int) (x:Int) (hl:l.length<900000):∀ (t i n:Nat),i+t=l.length→t<n→
  R101 l x n (.l0 l.length i)=some (if x∈l.drop i then ((i+(l.drop i).findIdx (fun y=>decide (x=y)):Nat):Int) else -1)
 | t,i,0,hi,hn=>by omega
 | 0,i,n+1,hi,hn=>by
   show T101 Ops.std l x _ some _=_
   unfold T101
   simp only [qah,qaa]
   rw [if_neg (by omega),List.drop_eq_nil_of_le (by omega)]
   simp
 | t+1,i,n+1,hi,hn=>by
   have ih:=qey l x hl t (i+1) n (by omega) (by omega)
   have hd:l.drop i=l.getD i 0::l.drop (i+1):=qa3 0 (by omega)
   show T101 Ops.std l x _ some _=_
   unfold T101
   have hw:IntKind.wrap IntKind.i64 ((i:Int)+1)=((i+1:Nat):Int):=qai (by omega)
   simp only [qah,qak,qan,qaa,qab,hw]
   rw [if_pos (by omega),if_pos (by omega),hd]
   have hdf:l.getD i (Ty.dflt ty5)=l.getD i 0:=rfl
   rw [hdf]
   by_cases hx:x=l.getD i 0
   ·rw [if_pos hx,if_pos (by rw [hx];exact List.mem_cons_self ..),List.findIdx_cons,decide_eq_true hx,cond_t]
    simp
   ·rw [if_neg hx]
    refine Eq.trans ih ?_
    rw [List.findIdx_cons]
    have:decide (x=l.getD i 0)=false:=decide_eq_false hx
    rw [this,cond_f]
    simp only [List.mem_cons,hx,false_or]
    by_cases hm:x∈l.drop (i+1)
    ·rw [if_pos hm,if_pos hm];congr 1;omega
    ·rw [if_neg hm,if_neg hm]
theorem qct (l:List Int) (x:Int) (hl:l.length<900000):M66 l x=some (decide (x∈l)):=by
 have h0:=qey l x hl l.length 0 1000000 (by omega) (by omega)
 have h:M101 l x=some (if x∈l.drop 0 then ((0+(l.drop 0).findIdx (fun y=>decide (x=y)):Nat):Int) else -1):=by
  show T101 Ops.std l x (R101 l x 1000000) some none=_
  unfold T101
  exact h0
 show T66 Ops.std M101 l x some=_
 unfold T66
 rw [h,ob_s,qa1,List.drop_zero]
 by_cases hm:x∈l
 ·rw [if_pos hm];simp [hm]
 ·rw [if_neg hm];simp [hm]
theorem qec (w:List UInt8) (h3:w.length≤3) (hd:∀ b∈w,digitP' b=true):∀ (t i n:Nat),i+t=w.length→t<n→R104 w n (.l0 (valW (w.take i)) w.length i)=some (valW w)
 | t,i,0,hi,hn=>by omega
 | 0,i,n+1,hi,hn=>by
   show T104 Ops.std w _ some _=_
   unfold T104
   simp only [qah,qaa]
   rw [if_neg (by omega),List.take_of_length_le (by omega)]
 | t+1,i,n+1,hi,hn=>by
   have ih:=qec w h3 hd t (i+1) n (by omega) (by omega)
   have hb:=qew i (w.take i) (by rw [List.length_take];omega) fun b hb=>hd b (List.mem_of_mem_take hb)
   have hmem:w.getD i 0∈w:=by
    rw [List.getD_eq_getElem?_getD,List.getElem?_eq_getElem (show i<w.length by omega)]
    exact List.getElem_mem _
   have hv:=qcp (hd _ hmem)
   have h100:0≤valW (w.take i)∧valW (w.take i)<1000:=by
    have hi3:i=0∨i=1∨i=2:=by omega
    rcases hi3 with rfl | rfl | rfl<;>simp at hb ⊢<;>omega
   rw [take_snoc w i (by omega),valW_snoc] at ih
   show T104 Ops.std w _ some _=_
   unfold T104
   have hw:IntKind.wrap IntKind.i64 ((i:Int)+1)=((i+1:Nat):Int):=qai (by omega)
   simp only [qah,qak,qaa,qab,hw]
   rw [if_pos (by omega),if_pos (by omega),wrap8 (by omega) (by omega),wrap64 (n:=(((w.getD i 0).toNat:Int)-48)) (by omega) (by omega),wrap64 (n:=10*valW (w.take i)) (by omega) (by omega),wrap64 (by omega) (by omega)]
   exact ih
theorem number_prog (w:List UInt8) (h3:w.length≤3) (hd:∀ b∈w,digitP' b=true):M104 w=some (valW w):=by
 have:=qec w h3 hd w.length 0 1000000 (by omega) (by omega)
 rw [List.take_zero,show valW []=0 from rfl] at this
 show T104 Ops.std w (R104 w 1000000) some none=_
 unfold T104
 exact this
def preP (s p:List UInt8):Bool:=s.take p.length == p
theorem prefix_prog (s p:List UInt8):M108 s p=some (preP s p):=by
 show T108 Ops.std M126 s p some=_
 unfold T108
 have:M126 s p=some (preP s p):=by
  show T126 Ops.std s p some=_
  unfold T126 preP
  simp only [qa1,qak,qaa,qab]
  by_cases h:p.length≤s.length
  ·rw [if_pos (by omega),if_pos (by omega)]
   simp
  ·have hne:s.take p.length≠p:=by
    intro he
    have:=congrArg List.length he
    rw [List.length_take] at this
    omega
   simp [h,hne]
 rw [this]
 rfl
def signsP:List (List UInt8):=[[60,61],[62,61],[61,61],[33,61],[38,38],[124,124],[45,62],[40],[41],[91],[93],[43],[45],[42],[60],[62],[33],[64],[59],[61]]
theorem signs_prog:M107=some signsP:=rfl
theorem qez {α:Type} {p q:α→Bool}:∀ {l:List α},(∀ x∈l,p x=q x)→l.find? p=l.find? q
 | [],_=>rfl
 | a::l,h=>by
   rw [List.find?_cons,List.find?_cons,h a (List.mem_cons_self ..),qez (l:=l) fun x hx=>h x (List.mem_cons_of_mem _ hx)]
theorem signsP_find (s:List UInt8):signsP.find? (preP s)=if signS s=[] then none else some (signS s):=by
 have e:signsP=twos++ones.map fun b=>[b]:=rfl
 have e2:twos.find? (preP s)=twos.find? (fun p=>decide (1<s.length) && (s.take 2 == p)):=qez fun p hp=>by
  have hl:p.length=2:=by
   have:∀ q∈twos,q.length=2:=by decide
   exact this p hp
  unfold preP
  rw [hl]
  by_cases h1:1<s.length
  ·simp [h1]
  ·have:s.take 2≠p:=by
    intro he
    have:=congrArg List.length he
    rw [List.length_take] at this
    omega
   simp [h1,this]
 rw [e,List.find?_append,e2,List.find?_map]
 unfold signS
 cases h:twos.find? (fun p=>decide (1<s.length) && (s.take 2 == p)) with
 | some p=>
   have hne:p≠[]:=by
    have:∀ q∈twos,q≠[]:=by decide
    exact this p (List.mem_of_find?_eq_some h)
   simp [hne]
 | none=>
   have e3:(preP s ∘ fun b=>[b])=fun b=>s.take 1 == [b]:=rfl
   rw [e3]
   cases h2:ones.find? (fun b=>s.take 1 == [b]) with
   | some b=>
     have h3:=List.find?_some h2
     simp only [beq_iff_eq] at h3
     simp [h3]
   | none=>simp
noncomputable abbrev tokR (s:List UInt8):=R67 M102 M103 M178 M104 M105 M106 M66 M107 M108 s
theorem qed (s:List UInt8) (l:List (List UInt8)) (hl:l.length<1000):∀ (t i n:Nat),i+t=l.length→t<n→tokR s n (.l0 l.length i l)=some (match (l.drop i).find? (preP s) with
  | some p=>(4,p,0,0)
  | none=>(0,[],0,0))
 | t,i,0,hi,hn=>by omega
 | 0,i,n+1,hi,hn=>by
   show T67 Ops.std _ _ _ _ _ _ _ _ _ s _ some _=_
   unfold T67
   simp only [qah,qaa]
   rw [if_neg (by omega),List.drop_eq_nil_of_le (by omega)]
   rfl
 | t+1,i,n+1,hi,hn=>by
   have ih:=qed s l hl t (i+1) n (by omega) (by omega)
   have hd:l.drop i=l.getD i (Ty.dflt ty9)::l.drop (i+1):=qa3 _ (by omega)
   show T67 Ops.std _ _ _ _ _ _ _ _ _ s _ some _=_
   unfold T67
   have hw:IntKind.wrap IntKind.i64 ((i:Int)+1)=((i+1:Nat):Int):=qai (by omega)
   simp only [qah,qak,qaa,qab,hw,prefix_prog,ob_s]
   rw [if_pos (by omega),if_pos (by omega),hd,List.find?_cons]
   cases hp:preP s (l.getD i (Ty.dflt ty9)) with
   | true=>simp only [cond_true]
   | false=>
     simp only [cond_false]
     exact ih
theorem token_prog (s:List UInt8) (h0:0<s.length) (hs:s.length<900000):M67 s=some (match tokS s with
  | some (k,w,n)=>(k,w,n,0)
  | none=>(0,[],0,0)):=by
 show T67 Ops.std M102 M103 M178 M104 M105 M106 M66 M107 M108 s (tokR s 1000000) some none=_
 unfold T67
 cases s with
 | nil=>simp at h0
 | cons b r=>
   have hsg:=qed (b::r) signsP (by decide) 20 0 1000000 rfl (by omega)
   have e0:(b::r).getD (Int.toNat 0) 0=b:=rfl
   simp only [qak,qa1,qaa,e0,qda,qcg,signs_prog,runD_prog _ hs,runW_prog _ hs,ob_s]
   rw [if_pos (by omega),tokS]
   cases hdg:digitP' b with
   | true=>
     simp only [cond_true,if_true]
     by_cases h3:((b::r).takeWhile digitP').length≤3
     ·rw [if_pos (by omega),if_pos h3,number_prog _ h3 (tw_all _),ob_s]
     ·rw [if_neg (by omega),if_neg h3]
   | false=>
     simp only [cond_false,Bool.false_eq_true,if_false]
     cases hlw:lowerP b with
     | true=>
       simp only [cond_true,if_true]
       by_cases h8:((b::r).takeWhile wordP).length≤8
       ·rw [if_pos (by omega),if_pos h8]
       ·rw [if_neg (by omega),if_neg h8]
     | false=>
       simp only [cond_false,Bool.false_eq_true,if_false]
       have hc:M66 (88::70::71::85::82::mt (Ty.den (Ty.int IntKind.u8))) (b.toNat:Int)=some (letterP b):=by
        refine (qct _ _ (by simp [mt])).trans ?_
        congr 1
        rw [Bool.eq_iff_iff]
        simp only [decide_eq_true_eq,letterP,Bool.or_eq_true,List.mem_cons,mt,List.not_mem_nil,or_false]
        omega
       rw [hc,ob_s]
       cases hlt:letterP b with
       | true=>
         simp only [cond_true,if_true]
         rw [if_pos (by omega)]
         rfl
       | false=>
         simp only [cond_false,Bool.false_eq_true,if_false]
         refine Eq.trans hsg ?_
         rw [List.drop_zero,signsP_find]
         by_cases hn:signS (b::r)=[]
         ·rw [if_pos hn,if_pos hn]
         ·rw [if_neg hn,if_neg hn]
noncomputable abbrev lexPR (s:List UInt8):=R29 M66 M67 s
theorem lexP_go (s:List UInt8) (hs:s.length≤60000):∀ (f a n:Nat) (out:List Tok),s.length-a<f→a≤s.length→s.length-a<n→out.length≤a→
  lexPR s n (.l0 a out)=some (lexGo f (s.drop a) a out)
 | 0,a,n,out,hf,ha,hn,ho=>by omega
 | f+1,a,0,out,hf,ha,hn,ho=>by omega
 | f+1,a,n+1,out,hf,ha,hn,ho=>by
   have ih:=lexP_go s hs f
   show T29 Ops.std _ _ s _ some _=_
   unfold T29
   by_cases hend:a=s.length
   ·rw [List.drop_eq_nil_of_le (by omega)]
    simp only [qah,qbc,qaa,mt,List.length_cons,List.length_nil]
    rw [if_neg (by omega),if_pos (by omega),hend]
    rfl
   ·have halt:a<s.length:=by omega
    have hd:s.drop a=s.getD a 0::s.drop (a+1):=qco halt
    have hw1:IntKind.wrap IntKind.i64 ((a:Int)+1)=((a+1:Nat):Int):=qai (by omega)
    have hc:M66 (32::9::10::mt (Ty.den (Ty.int IntKind.u8))) ((s.getD a 0).toNat:Int)=some (blankP (s.getD a 0)):=by
     refine (qct _ _ (by simp [mt])).trans ?_
     congr 1
     rw [Bool.eq_iff_iff]
     simp only [decide_eq_true_eq,blankP,Bool.or_eq_true,List.mem_cons,mt,List.not_mem_nil,or_false]
     omega
    have htk:=token_prog (s.drop a) (by rw [List.length_drop];omega) (by rw [List.length_drop];omega)
    simp only [qah,qak,qan,qbc,qaa,qab,hw1,hc,ob_s,List.take_length,htk]
    rw [if_pos (by omega),if_pos (by omega)]
    cases hb:blankP (s.getD a 0) with
    | true=>
      simp only [cond_true]
      refine Eq.trans (ih (a+1) n out (by omega) (by omega) (by omega) (by omega)) ?_
      rw [hd]
      simp only [lexGo,hb,if_true]
    | false=>
      simp only [cond_false]
      rw [if_pos (by omega)]
      cases ht:tokS (s.drop a) with
      | none=>
        simp only [if_true]
        rw [hd] at ht ⊢
        simp only [lexGo,hb,ht,Bool.false_eq_true,if_false]
      | some x=>
        obtain ⟨k,w,v⟩:=x
        obtain ⟨h1,h2,h3,h4,h5⟩:=tok_len ht
        rw [List.length_drop] at h2
        simp only [if_neg h4,mt,List.length_cons,List.length_nil]
        rw [if_pos (by omega),show IntKind.wrap IntKind.i64 ((a:Int)+(w.length:Int))=((a+w.length:Nat):Int) by rw [wrap64 (by omega) (by omega)];omega]
        refine Eq.trans (ih (a+w.length) n _ (by omega) (by omega) (by omega) (by simp;omega)) ?_
        have ht':=ht
        rw [hd] at ht ⊢
        simp only [lexGo,hb,ht,Bool.false_eq_true,if_false]
        rw [←hd,List.drop_drop]
theorem lex_prog (s:List UInt8):M29 s=some (lexS s):=by
 show T29 Ops.std M66 M67 s (lexPR s 1000000) some none=_
 unfold T29 lexS
 simp only [qah,qaa,mt]
 by_cases h:60000<s.length
 ·rw [if_pos (by omega),if_pos h]
 ·rw [if_neg (by omega),if_neg h]
  exact lexP_go s (by omega) (s.length+1) 0 1000000 [] (by omega) (by omega) (by omega) (by simp)
def sgT (l:List Tok) (a:Nat):List UInt8:=if (tkD l a).1=4 then (tkD l a).2.1 else []
theorem sgT_is {l:List Tok} {a:Nat} {w:List UInt8} (hw:w≠[]):(sgT l a == w)=isS l a w:=by
 unfold sgT isS
 by_cases h:(tkD l a).1=4
 ·rw [if_pos h,decide_eq_true h,Bool.true_and]
 ·rw [if_neg h,decide_eq_false h,Bool.false_and]
  simpa using hw
theorem sgT_op (l:List Tok) (a:Nat):sgW (sgT l a)=sgE l a:=by
 unfold sgT sgE
 split<;>rfl
theorem qbm {l:List Tok} {a:Nat} (ha:a<l.length) (out:List Trm):M98 l a out=some (sgT l a,l,(a:Int),out):=by
 show T98 Ops.std l a out some=_
 unfold T98 sgT
 simp only [qak,qan,qaa,qab]
 rw [if_pos (by omega)]
 split<;>rfl
theorem op_chain (w:List UInt8):M97 w=cond (([42]:List UInt8) == w) (some (6,4)) (cond (([43]:List UInt8) == w) (some (7,3)) (cond (([45]:List UInt8) == w) (some (8,3)) (cond (([60]:List UInt8) == w) (some (9,2)) (cond (([60,61]:List UInt8) == w) (some (10,2)) (cond (([62]:List UInt8) == w) (some (11,2)) (cond (([62,61]:List UInt8) == w) (some (12,2)) (cond (([61,61]:List UInt8) == w) (some (13,2)) (cond (([33,61]:List UInt8) == w) (some (14,2)) (cond (([38,38]:List UInt8) == w) (some (15,1)) (cond (([124,124]:List UInt8) == w) (some (16,0)) (some (0,-1)))))))))))):=by kernel_rfl
theorem beq_ite {α:Type} (x w:List UInt8) (a b:α):cond (x == w) a b=if w=x then a else b:=by
 by_cases h:w=x
 ·rw [if_pos h,h];simp
 ·rw [if_neg h]
  have:(x == w)=false:=by simpa using fun h2=>h h2.symm
  rw [this];rfl
theorem op_prog (w:List UInt8):M97 w=some ((sgW w).1,((sgW w).2:Int)-1):=by
 rw [op_chain]
 simp only [beq_ite]
 have key:∀ f:Int×Nat→Option (Int×Int),f (sgW w)=if w=[42] then f (6,5) else if w=[43] then f (7,4) else if w=[45] then f (8,4) else if w=[60] then f (9,3) else if w=[60,61] then f (10,3) else if w=[62] then f (11,3) else if w=[62,61] then f (12,3) else if w=[61,61] then f (13,3) else if w=[33,61] then f (14,3) else if w=[38,38] then f (15,2) else if w=[124,124] then f (16,1) else f (0,0):=fun f=>by
  unfold sgW
  simp only [apply_ite f]
 exact (key fun p=>some (p.1,(p.2:Int)-1)).symm
theorem back_prog (l:List Int):M123 l=some l:=rfl
def RsP (l:List Tok) (out:List Trm) (r:PR) (o:Option (Bool×List Tok×Int×List Trm)):Prop:=match r with
 | .ok b e=>o=some (true,l,(b:Int),out++e)
 | .bad k=>∃ out',o=some (false,l,(k:Int),out')
noncomputable abbrev bnR (d:Nat):=R63 (Rec63 d).2.1 (Rec63 d).1 M98 M97
noncomputable abbrev uaR (d:Nat):=R96 M98 (Rec63 d).2.2 M123
abbrev BnOK (l:List Tok) (d:Nat):Prop:=∀ (n a:Nat) (out:List Trm),1≤n→n≤6→16*(l.length-a)+2*(7-n)<d→a<l.length→out.length+(l.length-a)<200000→∃ r,PE l (.lv n a) r∧RsP l out r ((Rec63 d).1 ((n:Int)-1) l a out)
abbrev UaOK (l:List Tok) (d:Nat):Prop:=∀ (a:Nat) (out:List Trm),16*(l.length-a)<d→a<l.length→out.length+(l.length-a)<200000→∃ r,PE l (.un a) r∧RsP l out r ((Rec63 d).2.1 l a out)
abbrev AtOK (l:List Tok) (d:Nat):Prop:=∀ (a:Nat) (out:List Trm),16*(l.length-a)<d+3→a<l.length→out.length+(l.length-a)<200000→¬ isS l a [33]=true→¬ isS l a [45]=true→∃ r,PE l (.un a) r∧RsP l out r ((Rec63 d).2.2 l a out)
section
variable {l:List Tok}
theorem wordE_prog (hl:toksOK l) (hll:l.length<100000) {a:Nat} (ha:a<l.length) (hk:(tkD l a).1=2) (out:List Trm) (ho:out.length+(l.length-a)<200000):∃ r,PE l (.un a) r∧RsP l out r (M135 l a out):=by
 have h1:=qar hl ha (Ty.dflt ty85) (by rw [show (l.getD a (Ty.dflt ty85)).1=2 from hk];decide)
 have hM:M135 l a out=T135 Ops.std M98 l a out some:=rfl
 rw [hM]
 unfold T135
 have hw1:IntKind.wrap IntKind.i64 ((a:Int)+1)=((a+1:Nat):Int):=qai (by omega)
 simp only [qak,qan,qbc,qaa,qbd,qab,mt,List.length_cons,List.length_nil,hw1]
 rw [if_pos (by omega),qbm h1,ob_s]
 dsimp only
 rw [sgT_is (by decide)]
 have hpe:=pe_word hk
 cases hs:isS l (a+1) [64] with
 | false=>
   rw [if_neg (by rw [hs];decide)] at hpe
   simp only [Bool.not_false,cond_true]
   rw [if_pos (by omega)]
   exact ⟨_,hpe,rfl⟩
 | true=>
   rw [if_pos hs] at hpe
   have h2:=qar hl h1 (Ty.dflt ty85) (by rw [show (l.getD (a+1) (Ty.dflt ty85)).1=4 from qb0 hs];decide)
   have hw2:IntKind.wrap IntKind.i64 (((a+1:Nat):Int)+1)=((a+2:Nat):Int):=qai (by omega)
   have hw3:IntKind.wrap IntKind.i64 (((a+2:Nat):Int)+1)=((a+3:Nat):Int):=qai (by omega)
   simp only [Bool.not_true,cond_false,hw2,hw3,qab]
   have hin:(0:Int)≤((a+2:Nat):Int)∧((a+2:Nat):Int)<(l.length:Int):=by omega
   simp only [if_pos hin]
   by_cases h3:(l.getD (a+2) (Ty.dflt ty85)).1=2
   ·rw [if_pos h3] at hpe
    rw [if_neg (fun h=>h h3),if_pos (by omega)]
    exact ⟨_,hpe,rfl⟩
   ·rw [if_neg h3] at hpe
    rw [if_pos h3]
    exact ⟨_,hpe,_,rfl⟩
theorem atom_step (hl:toksOK l) (hll:l.length<100000) (d:Nat) (hb:BnOK l d):AtOK l (d+1):=fun a out hd ha ho n1 n2=>by
 show ∃ r,PE l (.un a) r∧RsP l out r (T122 Ops.std M135 M98 (Rec63 d).1 l a out some)
 unfold T122
 have hw1:IntKind.wrap IntKind.i64 ((a:Int)+1)=((a+1:Nat):Int):=qai (by omega)
 simp only [qak,qan,qbc,qaa,qbd,qab,mt,List.length_cons,List.length_nil,hw1]
 rw [if_pos (by omega)]
 by_cases k1:(l.getD a (Ty.dflt ty85)).1=1
 ·rw [if_pos k1,if_pos (by omega)]
  exact ⟨_,pe_num k1,rfl⟩
 ·rw [if_neg k1]
  by_cases k2:(l.getD a (Ty.dflt ty85)).1=2
  ·rw [if_pos k2]
   obtain ⟨r,h1,h2⟩:=wordE_prog hl hll ha k2 out ho
   refine ⟨r,h1,?_⟩
   cases r with
   | ok b e=>
     have h2:M135 l a out=some (true,l,(b:Int),out++e):=h2
     rw [h2,ob_s]
     exact rfl
   | bad k=>
     obtain ⟨out',h2⟩:=h2
     rw [h2,ob_s]
     exact ⟨_,rfl⟩
  ·rw [if_neg k2,qbm ha,ob_s]
   dsimp only
   rw [sgT_is (by decide)]
   cases hs:isS l a [40] with
   | false=>
     simp only [Bool.not_false,cond_true]
     exact ⟨_,pe_none n1 n2 k1 k2 (by rw [hs];decide),_,rfl⟩
   | true=>
     simp only [Bool.not_true,cond_false,hw1]
     have h1:=qar hl ha (Ty.dflt ty85) (by rw [qb0 hs];decide)
     obtain ⟨r,g1,g2⟩:=hb 1 (a+1) out (by omega) (by omega) (by omega) h1 (by omega)
     have e0:((1:Nat):Int)-1=0:=rfl
     rw [e0] at g2
     cases r with
     | bad k=>
       obtain ⟨out',g2⟩:=g2
       rw [g2,ob_s]
       exact ⟨_,pe_brab hs g1,_,rfl⟩
     | ok b e=>
       have g2:(Rec63 d).1 0 l ((a+1:Nat):Int) out=some (true,l,(b:Int),out++e):=g2
       have hbd:=g1.bd hl (Nat.le_refl 1) h1
       rw [g2,ob_s]
       dsimp only
       simp only [Bool.not_true,cond_false]
       rw [qbm hbd.2.1,ob_s]
       dsimp only
       rw [sgT_is (by decide)]
       refine ⟨_,pe_bra hs g1,?_⟩
       cases hs2:isS l b [41] with
       | false=>exact ⟨_,rfl⟩
       | true=>
         have:IntKind.wrap IntKind.i64 ((b:Int)+1)=((b+1:Nat):Int):=qai (by have:=hbd.2.1;omega)
         rw [this]
         exact rfl
theorem qe0 (hll:l.length<100000) (d:Nat) (p0:List Tok) (p1:Int) (p2:List Trm) (b:Nat):∀ (ops:List Int) (m:Nat) (rest:List Int) (out:List Trm),ops.length<m→out.length+ops.length<1000000→
  uaR d p0 p1 p2 m (.l1012 ((ops.length:Nat)-1) l b out (ops.reverse++rest))=some (true,l,(b:Int),out++ops.map fun n=>(n,0,[],[]))
 | ops,0,rest,out,hm,ho=>by omega
 | [],m+1,rest,out,hm,ho=>by
  show T96 Ops.std _ _ _ p0 p1 p2 _ some _=_
  unfold T96
  simp only [qah,qaa]
  rw [if_pos (by simp)]
  simp
 | x::ops,m+1,rest,out,hm,ho=>by
   have ih:=qe0 hll d p0 p1 p2 b ops m (x::rest) (out++[(x,0,[],[])]) (by simpa using hm) (by simp at ho ⊢;omega)
   show T96 Ops.std _ _ _ p0 p1 p2 _ some _=_
   unfold T96
   simp only [qah,qbc,qaa,mt]
   have hi:(((x::ops).length:Nat):Int)-1=(ops.length:Nat):=by simp
   rw [hi,if_neg (by omega),if_pos (by simp;omega),qab]
   have hg:((x::ops).reverse++rest).getD ops.length 0=x:=by
    rw [List.reverse_cons,List.append_assoc]
    have:=qbt ops.reverse x rest 0
    rw [List.length_reverse] at this
    exact this
   rw [hg,if_pos (by simp only [List.length_cons,List.length_nil];simp at ho;omega)]
   rw [List.reverse_cons,List.append_assoc]
   rw [List.map_cons]
   have e:out++((x,0,[],[])::ops.map fun n=>((n,0,[],[]):Trm))=out++[(x,0,[],[])]++ops.map fun n=>(n,0,[],[]):=by simp
   rw [e]
   exact ih
theorem qde (hl:toksOK l) (hll:l.length<100000) (d:Nat) (hat:AtOK l d) (p0:List Tok) (p1:Int) (p2:List Trm):∀ (t a m:Nat) (ops:List Int) (out:List Trm),l.length-a≤t→200000+t<m→16*(l.length-a)<d+3→a<l.length→ops.length+out.length+(l.length-a)<200000→
  ∃ r,PE l (.un a) r∧(match r with
    | .ok b e=>uaR d p0 p1 p2 m (.l0 l a ops out)=some (true,l,(b:Int),out++e++ops.reverse.map fun n=>(n,0,[],[]))
    | .bad k=>∃ out',uaR d p0 p1 p2 m (.l0 l a ops out)=some (false,l,(k:Int),out'))
 | t,a,0,ops,out,ht,hm,hd,ha,ho=>by omega
 | 0,a,m+1,ops,out,ht,hm,hd,ha,ho=>by omega
 | t+1,a,m+1,ops,out,ht,hm,hd,ha,ho=>by
   have hU:uaR d p0 p1 p2 (m+1) (.l0 l a ops out)=T96 Ops.std M98 (Rec63 d).2.2 M123 p0 p1 p2 (uaR d p0 p1 p2 m) some (some (.l0 l a ops out)):=rfl
   rw [hU]
   unfold T96
   have hw1:IntKind.wrap IntKind.i64 ((a:Int)+1)=((a+1:Nat):Int):=qai (by omega)
   simp only [qak,qan,qbc,qah,qaa,qbd,qab,mt,List.length_cons,List.length_nil,qbm ha,ob_s,hw1,sgT_is (l:=l) (a:=a) (w:=[33]) (by decide),sgT_is (l:=l) (a:=a) (w:=[45]) (by decide)]
   cases hs1:isS l a [33] with
   | true=>
     simp only [cond_true]
     rw [if_pos (by omega)]
     have h1:=qar hl ha (Ty.dflt ty85) (by rw [qb0 hs1];decide)
     obtain ⟨r,g1,g2⟩:=qde hl hll d hat p0 p1 p2 t (a+1) m (ops++[4]) out (by omega) (by omega) (by omega) h1 (by simp;omega)
     cases r with
     | ok b e=>
       refine ⟨_,pe_not hs1 g1,g2.trans ?_⟩
       simp
     | bad k=>exact ⟨_,pe_notb hs1 g1,g2⟩
   | false=>
     simp only [cond_false]
     cases hs2:isS l a [45] with
     | true=>
       simp only [cond_true]
       rw [if_pos (by omega)]
       have h1:=qar hl ha (Ty.dflt ty85) (by rw [qb0 hs2];decide)
       obtain ⟨r,g1,g2⟩:=qde hl hll d hat p0 p1 p2 t (a+1) m (ops++[5]) out (by omega) (by omega) (by omega) h1 (by simp;omega)
       cases r with
       | ok b e=>
         refine ⟨_,pe_neg hs2 g1,g2.trans ?_⟩
         simp
       | bad k=>exact ⟨_,pe_negb hs2 g1,g2⟩
     | false=>
       simp only [cond_false]
       obtain ⟨r,g1,g2⟩:=hat a out hd ha (by omega) (by rw [hs1];decide) (by rw [hs2];decide)
       refine ⟨r,g1,?_⟩
       cases r with
       | bad k=>
         obtain ⟨out',g2⟩:=g2
         rw [g2,ob_s]
         exact ⟨_,rfl⟩
       | ok b e=>
         have g2:(Rec63 d).2.2 l (a:Int) out=some (true,l,(b:Int),out++e):=g2
         have hbd:=g1.bd hl (by show 1≤6;omega) ha
         have hb1:a<b:=hbd.1
         have hb3:e.length≤b-a:=hbd.2.2.1
         have hb2:b<l.length:=hbd.2.1
         rw [g2,ob_s]
         dsimp only
         simp only [Bool.not_true,cond_false,back_prog,ob_s]
         have:=qe0 hll d p0 p1 p2 b ops.reverse m [] (out++e) (by simp;omega) (by simp;omega)
         simp only [List.reverse_reverse,List.append_nil,List.length_reverse] at this
         exact this
theorem qbz (hl:toksOK l) (hll:l.length<100000) (d n:Nat) (h1:1≤n) (h6:n≤5) (p1:List Tok) (p2:Int) (p3:List Trm) (hb:∀ (a:Nat) (out:List Trm),16*(l.length-a)+2*(6-n)<d→a<l.length→out.length+(l.length-a)<200000→∃ r,PE l (.lv (n+1) a) r∧RsP l out r ((Rec63 d).1 (n:Int) l a out)):∀ (t b m:Nat) (out e:List Trm),l.length-b≤t→t<m→16*(l.length-b)+2*(6-n)<d→b<l.length→out.length+e.length+(l.length-b)<200000→
  ∃ r,PE l (.lp n b e) r∧RsP l out r (bnR d ((n:Int)-1) p1 p2 p3 m (.l0 l b (out++e)))
 | t,b,0,out,e,ht,hm,hd,hbl,ho=>by omega
 | 0,b,m+1,out,e,ht,hm,hd,hbl,ho=>by omega
 | t+1,b,m+1,out,e,ht,hm,hd,hbl,ho=>by
   have hU:bnR d ((n:Int)-1) p1 p2 p3 (m+1) (.l0 l b (out++e))=T63 Ops.std (Rec63 d).2.1 (Rec63 d).1 M98 M97 ((n:Int)-1) p1 p2 p3 (bnR d ((n:Int)-1) p1 p2 p3 m) some (some (.l0 l b (out++e))):=rfl
   rw [hU]
   unfold T63
   have hw1:IntKind.wrap IntKind.i64 ((b:Int)+1)=((b+1:Nat):Int):=qai (by omega)
   have hwn:IntKind.wrap IntKind.i64 ((n:Int)-1+1)=(n:Int):=by rw [wrap64 (by omega) (by omega)];omega
   simp only [qak,qan,qbc,qah,qaa,qbd,qab,mt,List.length_cons,List.length_nil,qbm hbl,ob_s,hw1,hwn,op_prog,sgT_op]
   by_cases hs:(sgE l b).2=n
   ·have ho3:=sgE_op hs h1
    rw [if_neg (by omega)]
    have hb1:=qar hl hbl (Ty.dflt ty85) (by rw [show (l.getD b (Ty.dflt ty85)).1=4 from ho3.2.2];decide)
    obtain ⟨r,g1,g2⟩:=hb (b+1) (out++e) (by omega) hb1 (by simp;omega)
    cases r with
    | bad k=>
      obtain ⟨out',g2⟩:=g2
      rw [g2,ob_s]
      exact ⟨_,pe_lpbad hs g1,_,rfl⟩
    | ok c e2=>
      have g2:(Rec63 d).1 (n:Int) l ((b+1:Nat):Int) (out++e)=some (true,l,(c:Int),out++e++e2):=g2
      have hbd:=g1.bd hl (by show 1≤n+1;omega) hb1
      have hc1:b+1<c:=hbd.1
      have hc2:c<l.length:=hbd.2.1
      have hc3:e2.length≤c-(b+1):=hbd.2.2.1
      rw [g2,ob_s]
      dsimp only
      simp only [Bool.not_true,cond_false]
      rw [if_pos (by simp only [List.length_append];omega)]
      by_cases h3:n=3
      ·subst h3
       rw [if_pos (by decide)]
       refine ⟨_,pe_three hs g1,?_⟩
       show some _=some _
       simp
      ·rw [if_neg (by omega)]
       obtain ⟨r,j1,j2⟩:=qbz hl hll d n h1 h6 p1 p2 p3 hb t c m out (e++e2++[((sgE l b).1,0,[],[])]) (by omega) (by omega) (by omega) hc2 (by simp;omega)
       refine ⟨r,pe_more h3 hs g1 j1,?_⟩
       have ea:out++(e++e2++[((sgE l b).1,0,[],[])])=out++e++e2++[((sgE l b).1,0,[],[])]:=by simp
       rw [ea] at j2
       exact j2
   ·rw [if_pos (by omega)]
    exact ⟨_,pe_stop hs,rfl⟩
theorem parser_ok (hl:toksOK l) (hll:l.length<100000):∀ d,BnOK l d∧UaOK l d∧AtOK l d
 | 0=>⟨fun n a out _ _ h _ _=>(by omega),fun a out h _ _=>(by omega),fun a out h ha _ _ _=>(by omega)⟩
 | d+1=>by
   obtain ⟨hb,hu,hat⟩:=parser_ok hl hll d
   refine ⟨fun n a out h1 h6 hd ha ho=>?_,fun a out hd ha ho=>?_,atom_step hl hll d hb⟩
   ·show ∃ r,PE l (.lv n a) r∧RsP l out r (T63 Ops.std (Rec63 d).2.1 (Rec63 d).1 M98 M97 ((n:Int)-1) l a out (bnR d ((n:Int)-1) l a out 1000000) some none)
    unfold T63
    have hwn:IntKind.wrap IntKind.i64 ((n:Int)-1+1)=(n:Int):=by rw [wrap64 (by omega) (by omega)];omega
    simp only [qan,qaa,hwn]
    by_cases hn:n=6
    ·subst hn
     rw [if_pos (by decide)]
     obtain ⟨r,g1,g2⟩:=hu a out (by omega) ha ho
     refine ⟨r,pe_six g1,?_⟩
     cases r with
     | bad k=>
       obtain ⟨out',g2⟩:=g2
       rw [g2,ob_s]
       exact ⟨_,rfl⟩
     | ok b e=>
       have g2:(Rec63 d).2.1 l (a:Int) out=some (true,l,(b:Int),out++e):=g2
       rw [g2,ob_s]
       exact rfl
    ·rw [if_neg (by omega)]
     have hsub:∀ (a:Nat) (out:List Trm),16*(l.length-a)+2*(6-n)<d→a<l.length→out.length+(l.length-a)<200000→∃ r,PE l (.lv (n+1) a) r∧RsP l out r ((Rec63 d).1 (n:Int) l a out):=fun a out h2 h3 h4=>by
      have:=hb (n+1) a out (by omega) (by omega) (by omega) h3 h4
      have e:((n+1:Nat):Int)-1=(n:Int):=by omega
      rw [e] at this
      exact this
     obtain ⟨r,g1,g2⟩:=hsub a out (by omega) ha ho
     cases r with
     | bad k=>
       obtain ⟨out',g2⟩:=g2
       rw [g2,ob_s]
       exact ⟨_,pe_bad hn g1,_,rfl⟩
     | ok b e=>
       have g2:(Rec63 d).1 (n:Int) l (a:Int) out=some (true,l,(b:Int),out++e):=g2
       have hbd:=g1.bd hl (by show 1≤n+1;omega) ha
       have hc1:a<b:=hbd.1
       have hc2:b<l.length:=hbd.2.1
       have hc3:e.length≤b-a:=hbd.2.2.1
       rw [g2,ob_s]
       obtain ⟨r,j1,j2⟩:=qbz hl hll d n h1 (by omega) l a out hsub (l.length-b) b 1000000 out e (by omega) (by omega) (by omega) hc2 (by omega)
       exact ⟨r,pe_lv hn g1 j1,j2⟩
   ·show ∃ r,PE l (.un a) r∧RsP l out r (T96 Ops.std M98 (Rec63 d).2.2 M123 l a out (uaR d l a out 1000000) some none)
    unfold T96
    obtain ⟨r,g1,g2⟩:=qde hl hll d hat l a out (l.length-a) a 1000000 [] out (by omega) (by omega) (by omega) ha (by simp;omega)
    refine ⟨r,g1,?_⟩
    cases r with
    | bad k=>exact g2
    | ok b e=>
      refine g2.trans ?_
      simp
def takeR (a:Nat):PR→Int×Int×List Trm
 | .ok b e=>if 30<e.length then ((a:Int),13,[]) else ((b:Int),0,e)
 | .bad k=>((k:Int),2,[])
theorem ended_prog (hl:toksOK l) (hll:l.length<100000) {a:Nat} (ha:a<l.length):M62 l a=some true:=by
 show T62 Ops.std l a some=_
 unfold T62
 have hw:IntKind.wrap IntKind.i64 (((l.length:Nat):Int)-1)=((l.length-1:Nat):Int):=by rw [wrap64 (by omega) (by omega)];omega
 simp only [qak,qan,qa1,qah,qaa,hw,qab]
 rw [if_pos (by omega),if_pos (by omega),if_pos (by omega)]
 rcases (qdc hl (i:=l.length-1) (by omega) (Ty.dflt ty85)).1 with h | h
 ·omega
 ·rw [h];rfl
theorem take_prog (hl:toksOK l) (hll:l.length≤60001) {a:Nat} (ha:a<l.length):∃ r,PE l (.lv 1 a) r∧M25 l a=some (takeR a r):=by
 obtain ⟨r,g1,g2⟩:=(parser_ok hl (by omega) 1000000).1 1 a [] (by omega) (by omega) (by omega) ha (by simp;omega)
 refine ⟨r,g1,?_⟩
 show T25 Ops.std M62 M63 l a some=_
 unfold T25
 simp only [qah,qaa,ended_prog hl (by omega:l.length<100000) ha,ob_s,Bool.not_true,cond_false,mt]
 cases r with
 | bad k=>
   obtain ⟨out',g2⟩:=g2
   have g2:M63 0 l (a:Int) []=some (false,l,(k:Int),out'):=g2
   rw [g2,ob_s]
   exact rfl
 | ok b e=>
   have g2:M63 0 l (a:Int) []=some (true,l,(b:Int),[]++e):=g2
   rw [g2,ob_s]
   simp only [List.nil_append,Bool.not_true,cond_false,takeR]
   by_cases h:30<e.length
   ·rw [if_pos (by omega),if_pos h]
   ·rw [if_neg (by omega),if_neg h]
def parseR (l:List Tok) (y:Int×Int×List Trm):Int×Int×List Trm:=
 if y.2.1=0 then (if (tkD l y.1.toNat).1=5 then (0,0,y.2.2) else (2,(tkD l y.1.toNat).2.2.2,[])) else (y.2.1,(tkD l y.1.toNat).2.2.2,[])
theorem takeR_in (hl:toksOK l) {a:Nat} (ha:a<l.length) {r:PR} (h:PE l (.lv 1 a) r):∃ (k:Nat) (e:Int) (x:List Trm),takeR a r=((k:Int),e,x)∧k<l.length:=by
 have hbd:=h.bd hl (Nat.le_refl 1) ha
 cases r with
 | ok b e=>
   by_cases h30:30<e.length
   ·exact ⟨a,13,[],if_pos h30,ha⟩
   ·exact ⟨b,0,e,if_neg h30,hbd.2.1⟩
 | bad k=>exact ⟨k,2,[],rfl,hbd.2⟩
end
def ParseIs (s:List UInt8) (y:Int×Int×List Trm):Prop:=
 (∃ (e x:Int) (l:List Tok),lexS s=(e,x,l)∧e≠0∧y=(e,x,[]))∨∃ (x:Int) (l:List Tok) (r:PR),lexS s=(0,x,l)∧PE l (.lv 1 0) r∧y=parseR l (takeR 0 r)
theorem ParseIs.det {s:List UInt8} {y y':Int×Int×List Trm} (h:ParseIs s y) (h':ParseIs s y'):y=y':=by
 rcases h with ⟨e,x,l,h1,h2,rfl⟩ | ⟨x,l,r,h1,h2,rfl⟩<;>rcases h' with ⟨e',x',l',g1,g2,rfl⟩ | ⟨x',l',r',g1,g2,rfl⟩
 ·rw [h1] at g1;cases g1;rfl
 ·rw [h1] at g1;cases g1;exact absurd rfl h2
 ·rw [h1] at g1;cases g1;exact absurd rfl g2
 ·rw [h1] at g1;cases g1;rw [h2.det g2]
theorem qe1 (s:List UInt8):∃ y,ParseIs s y∧M17 s=some y:=by
 have hM:M17 s=T17 Ops.std M29 M25 s some:=rfl
 rw [hM]
 unfold T17
 rw [lex_prog,ob_s]
 simp only [qan,qak,qbd,qaa,mt]
 generalize hr:lexS s=y
 obtain ⟨e,x,l⟩:=y
 dsimp only
 by_cases he:e=0
 ·subst he
  obtain ⟨hl,hlen,hs⟩:=lexS_ok hr
  have hp:=toks_len hl
  obtain ⟨r,g1,g2⟩:=take_prog hl (by omega) hp
  refine ⟨_,.inr ⟨x,l,r,hr,g1,rfl⟩,?_⟩
  obtain ⟨k,e,z,g3,g4⟩:=takeR_in hl hp g1
  rw [g3] at g2
  rw [g3]
  have g2:M25 l 0=some ((k:Int),e,z):=g2
  rw [if_neg (by simp),g2,ob_s]
  unfold parseR
  dsimp only
  simp only [qab]
  have hin:(0:Int)≤(k:Int)∧(k:Int)<(l.length:Int):=by omega
  simp only [if_pos hin]
  by_cases h0:e=0
  ·subst h0
   simp only [if_true,not_true_eq_false,if_false]
   by_cases h5:(l.getD k (Ty.dflt ty85)).1=5
   ·rw [if_neg (fun h=>h h5),if_pos h5]
   ·rw [if_pos h5,if_neg h5,if_pos (by decide)]
  ·rw [if_neg h0,if_pos h0,if_neg h0]
 ·rw [if_pos he]
  exact ⟨_,.inl ⟨e,x,l,hr,he,rfl⟩,rfl⟩
def hdOK (s:List UInt8):Prop:=∃ (d:UInt8) (q:List UInt8),s=d::q∧d≠61∧d≠62
theorem hdOK.app {s:List UInt8} (h:hdOK s) (r:List UInt8):hdOK (s++r):=by
 obtain ⟨d,q,rfl,h⟩:=h
 exact ⟨d,q++r,rfl,h⟩
theorem qee {w:List UInt8} (r:List UInt8) (hw:w≠[]) (hd:w.all digitP'=true) (hl:w.length≤3) (hr:noWord r):LexTo w r [(1,w,valW w)]:=by
 cases w with
 | nil=>exact absurd rfl hw
 | cons b w=>
   have hb:digitP' b=true:=by simp only [List.all_cons,Bool.and_eq_true] at hd;exact hd.1
   have hk:blankP b=false:=by
    have:=qcp hb
    unfold blankP
    rw [decide_eq_false (by omega),decide_eq_false (by omega),decide_eq_false (by omega)];rfl
   refine LexTo.tok ?_ hk
   have ht:(b::(w++r)).takeWhile digitP'=b::w:=by
    have:=tw_app (p:=digitP') (b::w) r hd (fun c q e=>by
     have:=hr c q e
     simp only [wordP,Bool.or_eq_false_iff] at this
     exact this.2)
    exact this
   simp only [tokS,hb,ht,if_true]
   rw [if_pos hl]
theorem lx_wrd {w:List UInt8} (r:List UInt8) (hw:isWordP w=true) (hr:noWord r):LexTo w r [(2,w,0)]:=by
 cases w with
 | nil=>cases hw
 | cons b w=>
   have h8:=wordLen hw
   simp only [List.length_cons] at h8
   simp only [isWordP,Bool.and_eq_true,decide_eq_true_eq] at hw
   obtain ⟨⟨h1,h2⟩,h3⟩:=hw
   have hn:digitP' b=false:=by
    unfold lowerP at h1
    unfold digitP'
    simp only [Bool.or_eq_true,Bool.and_eq_true,decide_eq_true_eq] at h1
    rw [Bool.and_eq_false_iff]
    simp only [decide_eq_false_iff_not]
    omega
   have hk:blankP b=false:=by
    unfold lowerP at h1
    simp only [Bool.or_eq_true,Bool.and_eq_true,decide_eq_true_eq] at h1
    unfold blankP
    rw [decide_eq_false (by omega),decide_eq_false (by omega),decide_eq_false (by omega)];rfl
   exact lx_word r h1 hn hk h2 (by omega) hr
theorem signS_free {c:UInt8} {r:List UInt8} (h:c=42∨c=43):signS (c::r)=[c]:=by
 have h2:twos.find? (fun p=>decide (1<(c::r).length) && ((c::r).take 2 == p))=none:=by
  rw [List.find?_eq_none]
  intro p hp
  simp only [twos,List.mem_cons,List.not_mem_nil,or_false] at hp
  rcases h with h | h<;>subst h<;>rcases hp with hp | hp | hp | hp | hp | hp | hp<;>subst hp<;>simp
 unfold signS
 rw [h2]
 rcases h with h | h<;>subst h<;>simp [ones]
theorem signS_min {d:UInt8} {r:List UInt8} (hd:d≠62):signS (45::d::r)=[45]:=by
 have h2:twos.find? (fun p=>decide (1<(45::d::r).length) && ((45::d::r).take 2 == p))=none:=by
  rw [List.find?_eq_none]
  intro p hp
  simp only [twos,List.mem_cons,List.not_mem_nil,or_false] at hp
  rcases hp with hp | hp | hp | hp | hp | hp | hp<;>subst hp<;>simp [hd]
 unfold signS
 rw [h2]
 simp [ones]
theorem lx_min {d:UInt8} (r:List UInt8) (hd:d≠62):LexTo [45] (d::r) [(4,[45],0)]:=LexTo.tok (s:=[]) (qb8 rfl rfl rfl (signS_min hd) (by simp)) rfl
theorem lx_free {c:UInt8} (r:List UInt8) (h:c=42∨c=43):LexTo [c] r [(4,[c],0)]:=by
 have hs:=signS_free (r:=r) h
 rcases h with h | h<;>subst h<;>exact LexTo.tok (s:=[]) (qb8 rfl rfl rfl hs (by simp)) rfl
theorem lx_op {k:Int} (hk:6≤k∧k≤16) {s:List UInt8} (hs:hdOK s):LexTo (opW k) s [(4,opW k,0)]:=by
 obtain ⟨d,q,rfl,h1,h2⟩:=hs
 rcases qcs hk with rfl | rfl | rfl | rfl | rfl | rfl | rfl | rfl | rfl | rfl | rfl
 ·exact lx_free _ (.inl rfl)
 ·exact lx_free _ (.inr rfl)
 ·exact lx_min _ h2
 ·exact qdd _ (.inr (.inl rfl)) h1
 ·exact qby (p:=[60,61]) _ (by simp)
 ·exact qdd _ (.inr (.inr rfl)) h1
 ·exact qby (p:=[62,61]) _ (by simp)
 ·exact qby (p:=[61,61]) _ (by simp)
 ·exact qby (p:=[33,61]) _ (by simp)
 ·exact qby (p:=[38,38]) _ (by simp)
 ·exact qby (p:=[124,124]) _ (by simp)
theorem lx_un {k:Int} (hk:k=4∨k=5) {s:List UInt8} (hs:hdOK s):LexTo (unW k) s [(4,unW k,0)]:=by
 obtain ⟨d,q,rfl,h1,h2⟩:=hs
 rcases hk with rfl | rfl
 ·exact qdd _ (.inl rfl) h1
 ·exact lx_min _ h2
theorem noWord.op {k:Int} (hk:6≤k∧k≤16) (r:List UInt8):noWord (opW k++r):=by
 rcases qcs hk with rfl | rfl | rfl | rfl | rfl | rfl | rfl | rfl | rfl | rfl | rfl<;>exact noWord.cons rfl
theorem dgT_ok:(List.range 1000).all (fun n=>decide (valW (dgT (n:Int))=(n:Int)) && ((dgT (n:Int)).all digitP' && !(dgT (n:Int)).isEmpty))=true:=by kernel_rfl
theorem dgT_is {n:Int} (h:0≤n∧n≤999):valW (dgT n)=n∧(dgT n).all digitP'=true∧dgT n≠[]:=by
 obtain ⟨k,rfl⟩:∃ k:Nat,n=(k:Int):=⟨n.toNat,by omega⟩
 have:=List.all_eq_true.1 dgT_ok k (List.mem_range.2 (by omega))
 simp only [Bool.and_eq_true,decide_eq_true_eq,Bool.not_eq_true'] at this
 exact ⟨this.1,this.2.1,fun e=>by rw [e] at this;simp at this⟩
theorem low_hd {b:UInt8} (h:lowerP b=true):b≠61∧b≠62:=by
 unfold lowerP at h
 simp only [Bool.or_eq_true,Bool.and_eq_true,decide_eq_true_eq] at h
 constructor<;>(intro e;subst e;revert h;decide)
theorem word_hd {w:List UInt8} (h:isWordP w=true):hdOK w:=by
 cases w with
 | nil=>cases h
 | cons b w=>
   simp only [isWordP,Bool.and_eq_true] at h
   exact ⟨b,w,rfl,low_hd h.1.1⟩
theorem digits_hd {w:List UInt8} (h:w.all digitP'=true) (h0:w≠[]):hdOK w:=by
 cases w with
 | nil=>exact absurd rfl h0
 | cons b w=>
   simp only [List.all_cons,Bool.and_eq_true] at h
   have:=qcp h.1
   exact ⟨b,w,rfl,fun e=>by subst e;exact absurd this (by decide),fun e=>by subst e;exact absurd this (by decide)⟩
theorem nulT_2 {t:Trm} (h:nulT t) (h2:t.1=2):isWordP t.2.2.1=true:=by
 obtain ⟨hm,_⟩:=h
 unfold mayT at hm
 rw [if_neg (by omega),if_pos h2] at hm
 simp only [Bool.and_eq_true] at hm
 exact hm.1.2
theorem nulT_3 {t:Trm} (h:nulT t) (h3:t.1=3):isWordP t.2.2.1=true∧isWordP t.2.2.2=true:=by
 obtain ⟨hm,_⟩:=h
 unfold mayT at hm
 rw [if_neg (by omega),if_neg (by omega),if_pos h3] at hm
 simp only [Bool.and_eq_true] at hm
 exact ⟨hm.1.2,hm.2⟩
theorem leaf_hd {t:Trm} (h:nulT t):hdOK (leafW t):=by
 unfold leafW
 split
 ·rename_i h1
  obtain ⟨d1,d2,d3⟩:=dgT_is (may_num' h.1 h1)
  exact digits_hd d2 d3
 ·split
  ·rename_i h2
   exact word_hd (nulT_2 h h2)
  ·have h3:t.1=3:=by have:=h.2;omega
   exact ((word_hd (nulT_3 h h3).1).app _).app _
theorem leaf_lex {t:Trm} (h:nulT t) (r:List UInt8) (hr:noWord r):LexTo (leafW t) r (nulK t (leafW t)):=by
 by_cases h1:t.1=1
 ·obtain ⟨d1,d2,d3⟩:=dgT_is (may_num' h.1 h1)
  have e:leafW t=dgT t.2.1:=if_pos h1
  have e2:nulK t (leafW t)=[(1,leafW t,t.2.1)]:=if_pos h1
  rw [e2,e]
  have:=qee r d3 d2 (dgT_len _) hr
  rw [d1] at this
  exact this
 ·by_cases h2:t.1=2
  ·have e:leafW t=t.2.2.1:=by unfold leafW;rw [if_neg h1,if_pos h2]
   have e2:nulK t (leafW t)=[(2,t.2.2.1,0)]:=by unfold nulK;rw [if_neg h1,if_pos h2]
   rw [e2,e]
   exact lx_wrd r (nulT_2 h h2) hr
  ·have h3:t.1=3:=by have:=h.2;omega
   have e:leafW t=t.2.2.1++([64]++t.2.2.2):=by unfold leafW;rw [if_neg h1,if_neg h2,List.append_assoc]
   have e2:nulK t (leafW t)=[(2,t.2.2.1,0)]++([(4,[64],0)]++[(2,t.2.2.2,0)]):=by unfold nulK;rw [if_neg h1,if_neg h2];rfl
   rw [e2,e]
   exact (lx_wrd _ (nulT_3 h h3).1 (noWord.cons rfl)).app ((qdn _ (by simp)).app (lx_wrd r (nulT_3 h h3).2 hr))
theorem preT_of:∀ (tks pre suf:List Tok),PreT (tks.map strip) (pre++(tks++suf)) pre.length
 | [],pre,suf=>trivial
 | t::tks,pre,suf=>by
   refine ⟨⟨by simp,?_⟩,?_⟩
   ·show strip (tkD (pre++t::(tks++suf)) pre.length)=strip t
    unfold tkD
    rw [qbt]
   ·have:=preT_of tks (pre++[t]) suf
    rw [List.append_assoc,List.length_append] at this
    exact this
theorem lex_all {s:List UInt8} {ts:List TokS} (h:LexTo s [] ts) (hl:s.length≤60000):∃ (tks:List Tok) (x:Int),lexS s=(0,0,tks++[(5,[],0,x)])∧tks.map strip=ts:=by
 obtain ⟨f',tks,h1,h2,h3⟩:=h (s.length+1) 0 [] (by simp)
 rw [List.append_nil] at h3
 obtain ⟨g,rfl⟩:∃ g,f'=g+1:=⟨f'-1,by simp at h2;omega⟩
 refine ⟨tks,((0+s.length:Nat):Int),?_,h1⟩
 unfold Av.lexS
 rw [if_neg (by omega),h3]
 rfl
theorem De.lv_pos (d:De):1≤d.lv:=by
 cases d with
 | bi k x y=>exact (qex k).1
 | nul _ _=>show 1≤7;omega
 | un _ _=>show 1≤6;omega
 | bra _=>show 1≤7;omega
theorem De.parse2 {d:De} (hd:d.ok) {s:List UInt8} {tks:List Tok} {x:Int} (h1:lexS s=(0,0,tks++[(5,[],0,x)])) (h2:tks.map strip=d.toks):ParseIs s (if 30<d.tree.flat.length then (13,0,[]) else (0,0,d.tree.flat))∨∃ a:Int,ParseIs s (13,a,[])∧30<d.tree.flat.length:=by
 have hp:=preT_of tks [] [(5,[],0,x)]
 rw [h2] at hp
 have hn:tks.length=d.toks.length:=by rw [←h2];simp
 have hend:tkD (tks++[(5,[],0,x)]) (0+d.toks.length)=(5,[],0,x):=by
  rw [Nat.zero_add,←hn]
  exact qbt tks _ [] _
 have hk:(tkD (tks++[(5,[],0,x)]) (0+d.toks.length)).1=5:=by rw [hend]
 have hs0:(sgE (tks++[(5,[],0,x)]) (0+d.toks.length)).2=0:=by
  unfold sgE
  rw [if_neg (by rw [hk];decide)]
 have hr:=(De.read (l:=tks++[(5,[],0,x)]) (fun _ _=>trivial) d hd 0 hp (qcq (by rw [hk];decide))).2.1 1 (Nat.le_refl 1) (by omega) d.lv_pos (by omega)
 by_cases h30:30<d.tree.flat.length
 ·refine .inr ⟨(tkD (tks++[(5,[],0,x)]) 0).2.2.2,.inr ⟨0,_,_,h1,hr,?_⟩,h30⟩
  have:takeR 0 (.ok (0+d.toks.length) d.tree.flat)=(0,13,[]):=if_pos h30
  rw [this]
  rfl
 ·rw [if_neg h30]
  refine .inl (.inr ⟨0,_,_,h1,hr,?_⟩)
  have:takeR 0 (.ok (0+d.toks.length) d.tree.flat)=(((0+d.toks.length:Nat):Int),0,d.tree.flat):=if_neg h30
  rw [this]
  unfold parseR
  dsimp only
  rw [if_pos rfl,qab,if_pos hk]
theorem De.parse {d:De} (hd:d.ok) {s:List UInt8} (h:LexTo s [] d.toks) (hl:s.length≤60000):ParseIs s (if 30<d.tree.flat.length then (13,0,[]) else (0,0,d.tree.flat))∨∃ a:Int,ParseIs s (13,a,[])∧30<d.tree.flat.length:=by
 obtain ⟨tks,x,h1,h2⟩:=lex_all h hl
 exact De.parse2 hd h1 h2
def drvD (l:List Tok) (n a b:Nat) (e:List Trm):Prop:=∃ D:De,D.ok∧n≤D.lv∧PreT D.toks l a∧b=a+D.toks.length∧e=D.tree.flat
def drvS (l:List Tok):PS→PR→Prop
 | .lv n a,.ok b e=>drvD l n a b e
 | .un a,.ok b e=>drvD l 6 a b e
 | .lp n b0 e0,.ok b e=>∀ (a:Nat),drvD l (lfO n) a b0 e0→drvD l n a b e
 | _,.bad _=>True
theorem drvD.le {l:List Tok} {n m a b:Nat} {e:List Trm} (h:drvD l n a b e) (hm:m≤n):drvD l m a b e:=by
 obtain ⟨D,h1,h2,h3⟩:=h
 exact ⟨D,h1,by omega,h3⟩
theorem PreT.join:∀ {s t:List TokS} {l:List Tok} {a:Nat},PreT s l a→PreT t l (a+s.length)→PreT (s++t) l a
 | [],t,l,a,h1,h2=>h2
 | x::s,t,l,a,h1,h2=>by
   refine ⟨h1.1,PreT.join h1.2 ?_⟩
   rw [List.length_cons,show a+(s.length+1)=a+1+s.length by omega] at h2
   exact h2
def zL (l:List Tok):Prop:=∀ a,(tkD l a).1≠1→(tkD l a).2.2.1=0
theorem zL.sg {l:List Tok} (hz:zL l) {a:Nat} {w:List UInt8} (h:isS l a w=true):strip (tkD l a)=(4,w,0):=by
 unfold isS at h
 simp only [Bool.and_eq_true,decide_eq_true_eq,beq_iff_eq] at h
 have:=hz a (by rw [h.1];decide)
 unfold strip
 rw [h.1,h.2,this]
theorem zL.wd {l:List Tok} (hz:zL l) {a:Nat} (h:(tkD l a).1=2):strip (tkD l a)=(2,(tkD l a).2.1,0):=by
 have:=hz a (by rw [h];decide)
 unfold strip
 rw [h,this]
theorem zL.op {l:List Tok} (hz:zL l) {b n:Nat} (h:(sgE l b).2=n) (h1:1≤n):strip (tkD l b)=(4,opW (sgE l b).1,0):=by
 obtain ⟨o1,o2,o3⟩:=sgE_op h h1
 have hw:(tkD l b).2.1=opW (sgE l b).1:=by
  unfold sgE at h ⊢
  rw [if_pos o3] at h ⊢
  generalize (tkD l b).2.1=w at h ⊢
  unfold sgW at h ⊢
  repeat' split
  all_goals first | (rename_i hw;rw [hw];rfl) | skip
  all_goals simp_all
  all_goals omega
 have:=hz b (by rw [o3];decide)
 unfold strip
 rw [o3,this,hw]
theorem drv_un {l:List Tok} {a b:Nat} {e:List Trm} {k:Int} (hk:k=4∨k=5) (ha:a<l.length) (h1:strip (tkD l a)=(4,unW k,0)) (h:drvD l 6 (a+1) b e):drvD l 6 a b (e++[(k,0,[],[])]):=by
 obtain ⟨D,d1,d2,d3,rfl,rfl⟩:=h
 exact ⟨.un k D,⟨hk,d2,d1⟩,Nat.le_refl 6,⟨⟨ha,h1⟩,d3⟩,by simp only [De.toks,List.length_cons];omega,rfl⟩
theorem drv_bi {l:List Tok} {a b c n:Nat} {e e2:List Trm} (hz:zL l) (hb:b<l.length) (hs:(sgE l b).2=n) (h1:1≤n) (h:drvD l (lfO n) a b e) (h2:drvD l (n+1) (b+1) c e2):drvD l n a c (e++e2++[((sgE l b).1,0,[],[])]):=by
 obtain ⟨o1,o2,o3⟩:=sgE_op hs h1
 have hlo:=lvl_op hs h1
 have ht:=hz.op hs h1
 obtain ⟨D,d1,d2,d3,d4,rfl⟩:=h
 obtain ⟨E,e1,e2,e3,e4,rfl⟩:=h2
 refine ⟨.bi (sgE l b).1 D E,⟨⟨o1,o2⟩,by rw [hlo];exact d2,by rw [hlo];exact e2,d1,e1⟩,by show n≤lvO _;omega,?_,?_,rfl⟩
 ·show PreT (D.toks++((4,opW (sgE l b).1,0)::E.toks)) l a
  refine d3.join ⟨⟨by omega,?_⟩,?_⟩
  ·rw [←d4];exact ht
  ·rw [←d4];exact e3
 ·simp only [De.toks,List.length_append,List.length_cons];omega
theorem qdo {l:List Tok} (hl:toksOK l) (hz:zL l):∀ (d:Nat) (s:PS) (r:PR),1≤s.lvl→s.at<l.length→go l d s=some r→drvS l s r
 | 0,s,r,_,_,h=>by cases h
 | d+1,.lv n a,r,h1,ha,h=>by
   have ha:a<l.length:=ha
   have h1:1≤n:=h1
   rw [go] at h
   split at h
   ·rename_i h6
    have:=qdo hl hz d _ r (by show 1≤6;omega) (by exact ha) h
    subst h6
    cases r<;>exact this
   ·rcases qas h with ⟨b,e,g1,g2⟩ | ⟨k,g1,rfl⟩
    ·have hbd:=qch hl d (.lv (n+1) a) _ (by show 1≤n+1;omega) (by exact ha) g1
     have t1:drvD l (n+1) a b e:=qdo hl hz d (.lv (n+1) a) _ (by show 1≤n+1;omega) (by exact ha) g1
     have g3:=qdo hl hz d (.lp n b e) r h1 hbd.2.1 g2
     cases r with
     | bad k=>exact trivial
     | ok c e2=>
       refine g3 a (t1.le ?_)
       unfold lfO
       split<;>omega
    ·exact trivial
 | d+1,.lp n b e,r,h1,hb,h=>by
   have hb:b<l.length:=hb
   have h1:1≤n:=h1
   rw [go] at h
   split at h
   ·rename_i hs
    obtain ⟨o1,o2,o3⟩:=sgE_op hs h1
    have hb1:=qar hl hb (Ty.dflt ty85) (by rw [show (l.getD b (Ty.dflt ty85)).1=4 from o3];decide)
    rcases qas h with ⟨c,e2,g1,g2⟩ | ⟨k,g1,rfl⟩
    ·have hbd:=qch hl d (.lv (n+1) (b+1)) _ (by show 1≤n+1;omega) hb1 g1
     have u:drvD l (n+1) (b+1) c e2:=qdo hl hz d (.lv (n+1) (b+1)) _ (by show 1≤n+1;omega) hb1 g1
     split at g2
     ·cases g2
      exact fun a t=>drv_bi hz hb hs h1 t u
     ·rename_i h3
      have g3:=qdo hl hz d (.lp n c _) r h1 hbd.2.1 g2
      cases r with
      | bad k=>exact trivial
      | ok c' e'=>
        intro a t
        have q:=drv_bi hz hb hs h1 t u
        exact g3 a (by rw [show lfO n=n from if_neg h3];exact q)
    ·exact trivial
   ·cases h
    intro a t
    refine t.le ?_
    unfold lfO
    split<;>omega
 | d+1,.un a,r,h1,ha,h=>by
   have ha:a<l.length:=ha
   have hnx:=qar hl ha (Ty.dflt ty85)
   obtain ⟨ht1,⟨ht2,ht3⟩,ht4⟩:=qdc hl ha (Ty.dflt ty85)
   have pre:∀ (op:Int),(op=4∨op=5)→isS l a (unW op)=true→onOk (go l d (.un (a+1))) (fun b e=>some (.ok b (e++[(op,0,[],[])])))=some r→drvS l (.un a) r:=fun op hop h4 h=>by
    have hb1:=hnx (by rw [show (l.getD a (Ty.dflt ty85)).1=4 from qb0 h4];decide)
    rcases qas h with ⟨c,e2,g1,g2⟩ | ⟨k,g1,rfl⟩
    ·have t:drvD l 6 (a+1) c e2:=qdo hl hz d (.un (a+1)) _ (by show 1≤6;omega) hb1 g1
     cases g2
     exact drv_un hop ha (hz.sg h4) t
    ·exact trivial
   rw [go] at h
   split at h
   ·rename_i hs;exact pre 4 (.inl rfl) hs h
   ·split at h
    ·rename_i hs;exact pre 5 (.inr rfl) hs h
    ·split at h
     ·rename_i hk
      cases h
      refine ⟨.nul (1,(tkD l a).2.2.1,[],[]) (tkD l a).2.1,⟨mayN (ht2 hk),.inl rfl⟩,by show 6≤7;omega,⟨⟨ha,?_⟩,trivial⟩,rfl,rfl⟩
      unfold strip
      rw [hk]
     ·split at h
      ·rename_i hk
       have hb1:=hnx (by rw [show (l.getD a (Ty.dflt ty85)).1=2 from hk];decide)
       split at h
       ·rename_i hs
        have hb2:=qar hl hb1 (Ty.dflt ty85) (by rw [show (l.getD (a+1) (Ty.dflt ty85)).1=4 from qb0 hs];decide)
        split at h
        ·rename_i hk2
         cases h
         exact ⟨.nul (3,0,(tkD l a).2.1,(tkD l (a+2)).2.1) [],⟨mayA (ht3 hk) ((qdc hl hb2 (Ty.dflt ty85)).2.1.2 hk2),.inr (.inr rfl)⟩,by show 6≤7;omega,⟨⟨ha,hz.wd hk⟩,⟨hb1,hz.sg hs⟩,⟨hb2,hz.wd hk2⟩,trivial⟩,rfl,rfl⟩
        ·cases h;exact trivial
       ·cases h
        exact ⟨.nul (2,0,(tkD l a).2.1,[]) [],⟨mayV (ht3 hk),.inr (.inl rfl)⟩,by show 6≤7;omega,⟨⟨ha,hz.wd hk⟩,trivial⟩,rfl,rfl⟩
      ·split at h
       ·rename_i hs
        have hb1:=hnx (by rw [show (l.getD a (Ty.dflt ty85)).1=4 from qb0 hs];decide)
        rcases qas h with ⟨c,e2,g1,g2⟩ | ⟨k,g1,rfl⟩
        ·have hbd:=qch hl d (.lv 1 (a+1)) _ (Nat.le_refl 1) hb1 g1
         have t:drvD l 1 (a+1) c e2:=qdo hl hz d (.lv 1 (a+1)) _ (Nat.le_refl 1) hb1 g1
         split at g2
         ·rename_i hs2
          cases g2
          obtain ⟨D,d1,d2,d3,d4,rfl⟩:=t
          refine ⟨.bra D,d1,by show 6≤7;omega,⟨⟨ha,hz.sg hs⟩,d3.join ⟨⟨?_,?_⟩,trivial⟩⟩,?_,rfl⟩
          ·rw [←d4];exact hbd.2.1
          ·rw [←d4];exact hz.sg hs2
          ·simp only [De.toks,List.length_cons,List.length_append,List.length_nil];omega
         ·cases g2;exact trivial
        ·exact trivial
       ·cases h;exact trivial
inductive Cl (l:List Tok):Nat→Nat→Nat→Prop
 | stop {a:Nat}:isS l a [41]=true→Cl l a 0 a
 | dn {a d c:Nat}:isS l a [41]=true→Cl l (a+1) d c→Cl l a (d+1) c
 | up {a d c:Nat}:isS l a [40]=true→Cl l (a+1) (d+1) c→Cl l a d c
 | ot {a d c:Nat}:¬ isS l a [40]=true→¬ isS l a [41]=true→Cl l (a+1) d c→Cl l a d c
theorem Cl.det {l:List Tok} {a d c:Nat} (h:Cl l a d c):∀ {c':Nat},Cl l a d c'→c=c':=by
 induction h with
 | stop h=>
   intro c' h'
   cases h' with
   | stop _=>rfl
   | up h2 _=>exact absurd h (qbh h2 (by decide))
   | ot _ h2 _=>exact absurd h h2
 | dn h _ ih=>
   intro c' h'
   cases h' with
   | dn _ h2=>exact ih h2
   | up h2 _=>exact absurd h (qbh h2 (by decide))
   | ot _ h2 _=>exact absurd h h2
 | up h _ ih=>
   intro c' h'
   cases h' with
   | stop h2=>exact absurd h2 (qbh h (by decide))
   | dn h2 _=>exact absurd h2 (qbh h (by decide))
   | up _ h2=>exact ih h2
   | ot h2 _ _=>exact absurd h h2
 | ot h1 h2 _ ih=>
   intro c' h'
   cases h' with
   | stop h=>exact absurd h h2
   | dn h _=>exact absurd h h2
   | up h _=>exact absurd h h1
   | ot _ _ h=>exact ih h
def Bal (T:List TokS):Prop:=∀ (l:List Tok) (a d c:Nat),PreT T l a→Cl l (a+T.length) d c→Cl l a d c
theorem Bal.nil:Bal []:=fun l a d c _ h=>h
theorem Bal.app {s t:List TokS} (h1:Bal s) (h2:Bal t):Bal (s++t):=fun l a d c hp h=>by
 obtain ⟨p1,p2⟩:=PreT.app _ _ _ _ hp
 rw [List.length_append,←Nat.add_assoc] at h
 exact h1 l a d c p1 (h2 l _ d c p2 h)
theorem Bal.one {t:TokS} (h:t.1≠4∨(t.2.1≠[40]∧t.2.1≠[41])):Bal [t]:=fun l a d c hp hc=>by
 have e:strip (tkD l a)=t:=hp.1.2
 have no:∀ w,(w=[40]∨w=[41])→¬ isS l a w=true:=fun w hw hs=>by
  unfold isS at hs
  simp only [Bool.and_eq_true,decide_eq_true_eq,beq_iff_eq] at hs
  rw [←e] at h
  rcases h with h | ⟨h,h2⟩
  ·exact h hs.1
  ·rcases hw with rfl | rfl
   ·exact h hs.2
   ·exact h2 hs.2
 exact .ot (no _ (.inl rfl)) (no _ (.inr rfl)) hc
theorem Bal.bra {T:List TokS} (h:Bal T):Bal ((4,[40],0)::(T++[(4,[41],0)])):=fun l a d c hp hc=>by
 obtain ⟨⟨_,p1⟩,p2⟩:=hp
 obtain ⟨p3,⟨_,p4⟩,_⟩:=PreT.app _ _ _ _ p2
 refine .up (qbe p1) (h l (a+1) (d+1) c p3 (.dn (qbe p4) ?_))
 simp only [List.length_cons,List.length_append,List.length_nil] at hc
 rw [show a+1+T.length+1=a+(T.length+(0+1)+1) by omega]
 exact hc
theorem De.bal:∀ D:De,D.ok→Bal D.toks
 | .nul t w,h=>by
   have n1:(1:Int)≠4:=by decide
   have n2:(2:Int)≠4:=by decide
   show Bal (nulK t w)
   unfold nulK
   split
   ·exact .one (.inl n1)
   ·split
    ·exact .one (.inl n2)
    ·have:Bal ([(2,t.2.2.1,0)]++([(4,[64],0)]++[(2,t.2.2.2,0)])):=(Bal.one (.inl n2)).app ((Bal.one (.inr (by decide))).app (Bal.one (.inl n2)))
     exact this
 | .un k D,h=>by
   have:Bal ([(4,unW k,0)]++D.toks):=(Bal.one (.inr (by rcases h.1 with rfl | rfl<;>decide))).app (D.bal h.2.2)
   exact this
 | .bi k D E,h=>by
   have:Bal (D.toks++([(4,opW k,0)]++E.toks)):=(D.bal h.2.2.2.1).app ((Bal.one (.inr (by
    rcases qcs h.1 with rfl | rfl | rfl | rfl | rfl | rfl | rfl | rfl | rfl | rfl | rfl<;>decide))).app (E.bal h.2.2.2.2))
   exact this
 | .bra D,h=>(D.bal h).bra
theorem PreT.same:∀ {s t:List TokS} {l:List Tok} {a:Nat},PreT s l a→PreT t l a→s.length=t.length→s=t
 | [],[],_,_,_,_,_=>rfl
 | x::s,y::t,l,a,h1,h2,hl=>by
   rw [←h1.1.2,←h2.1.2,PreT.same h1.2 h2.2 (by simpa using hl)]
theorem bra_drv {l:List Tok} {a b:Nat} {e:List Trm} {T:List TokS} (hT:Bal T) (hp:PreT ((4,[40],0)::(T++[(4,[41],0)])) l a) (h:drvD l 6 a b e):∃ D:De,D.ok∧D.bra.toks=(4,[40],0)::(T++[(4,[41],0)])∧b=a+(T.length+2):=by
 obtain ⟨D,d1,d2,d3,d4,_⟩:=h
 have hp0:=hp
 obtain ⟨⟨ha,p1⟩,p2⟩:=hp
 obtain ⟨p3,⟨_,p4⟩,_⟩:=PreT.app _ _ _ _ p2
 have c1:Cl l (a+1) 0 (a+1+T.length):=hT l (a+1) 0 _ p3 (.stop (qbe p4))
 cases D with
 | nul t w=>
   exfalso
   have:∃ x r,(De.nul t w).toks=x::r∧x.1≠4:=by
    show ∃ x r,nulK t w=x::r∧x.1≠4
    have n1:(1:Int)≠4:=by decide
    have n2:(2:Int)≠4:=by decide
    unfold nulK
    (repeat' split)<;>first | exact ⟨_,_,rfl,n1⟩ | exact ⟨_,_,rfl,n2⟩
   obtain ⟨x,r,e1,e2⟩:=this
   rw [e1] at d3
   have:=d3.1.2
   rw [p1] at this
   rw [←this] at e2
   exact e2 rfl
 | un k D=>
   exfalso
   have:=d3.1.2
   rw [p1] at this
   have h2:([40]:List UInt8)=unW k:=congrArg (·.2.1) this
   rcases d1.1 with rfl | rfl<;>exact absurd h2 (by decide)
 | bi k D E=>
   exfalso
   have:=(qex k).2
   have d2:6≤lvO k:=d2
   omega
 | bra D=>
   obtain ⟨⟨_,q1⟩,q2⟩:=d3
   obtain ⟨q3,⟨_,q4⟩,_⟩:=PreT.app _ _ _ _ q2
   have c2:Cl l (a+1) 0 (a+1+D.toks.length):=D.bal d1 l (a+1) 0 _ q3 (.stop (qbe q4))
   have e1:=c1.det c2
   have e2:=q3.same p3 (by omega)
   refine ⟨D,d1,by rw [←e2];rfl,?_⟩
   rw [d4]
   simp only [De.toks,List.length_cons,List.length_append,List.length_nil]
   omega
theorem lv_un {l:List Tok}:∀ (k n:Nat) (d a b:Nat) (e:List Trm),n+k=6→go l d (.lv n a)=some (.ok b e)→∃ d' b' e',go l d' (.un a)=some (.ok b' e')
 | 0,n,0,a,b,e,hn,h=>by cases h
 | k+1,n,0,a,b,e,hn,h=>by cases h
 | 0,n,d+1,a,b,e,hn,h=>by
   rw [go,if_pos (by omega)] at h
   exact ⟨d,b,e,h⟩
 | k+1,n,d+1,a,b,e,hn,h=>by
   rw [go,if_neg (by omega)] at h
   rcases qas h with ⟨b1,e1,g1,g2⟩ | ⟨k,g1,h2⟩
   ·exact lv_un k (n+1) d a b1 e1 (by omega) g1
   ·cases h2
theorem lv_second {l:List Tok} {a b:Nat} (H:∀ d b' e',go l d (.un a)=some (.ok b' e')→b'=b) (h5:(sgE l b).2≤5):∀ (k n:Nat) (d c:Nat) (e:List Trm),n+k=6→go l d (.lv n a)=some (.ok c e)→((sgE l b).2<n→c=b)∧(n≤(sgE l b).2→∃ d' b' e',go l d' (.un (b+1))=some (.ok b' e'))
 | 0,n,0,c,e,hn,h=>by cases h
 | k+1,n,0,c,e,hn,h=>by cases h
 | 0,n,d+1,c,e,hn,h=>by
   rw [go,if_pos (by omega)] at h
   exact ⟨fun _=>H d c e h,fun h=>by omega⟩
 | k+1,n,d+1,c,e,hn,h=>by
   rw [go,if_neg (by omega)] at h
   rcases qas h with ⟨b1,e1,g1,g2⟩ | ⟨k,g1,h2⟩
   ·obtain ⟨i1,i2⟩:=lv_second H h5 k (n+1) d b1 e1 (by omega) g1
    refine ⟨fun hlt=>?_,fun hle=>?_⟩
    ·have e1:=i1 (by omega)
     subst e1
     cases d with
     | zero=>cases g2
     | succ d=>
       rw [go,if_neg (by omega)] at g2
       cases g2
       rfl
    ·by_cases hn2:(sgE l b).2=n
     ·have e1:=i1 (by omega)
      subst e1
      cases d with
      | zero=>cases g2
      | succ d=>
        rw [go,if_pos hn2] at g2
        rcases qas g2 with ⟨b2,e2,j1,j2⟩ | ⟨k,j1,j2⟩
        ·exact lv_un k (n+1) d _ _ _ (by omega) j1
        ·cases j2
     ·exact i2 (by omega)
   ·cases h2
theorem un_sign {l:List Tok} {d a b:Nat} {e:List Trm} (hs:isS l a [33]=true∨isS l a [45]=true) (h:go l d (.un a)=some (.ok b e)):∃ d' b' e',go l d' (.un (a+1))=some (.ok b' e'):=by
 cases d with
 | zero=>cases h
 | succ d=>
   rw [go] at h
   split at h
   ·rcases qas h with ⟨b1,e1,g1,g2⟩ | ⟨k,g1,h2⟩
    ·exact ⟨d,b1,e1,g1⟩
    ·cases h2
   ·rename_i h33
    rw [if_pos (by rcases hs with h | h;exact absurd h h33;exact h)] at h
    rcases qas h with ⟨b1,e1,g1,g2⟩ | ⟨k,g1,h2⟩
    ·exact ⟨d,b1,e1,g1⟩
    ·cases h2
theorem un_bra {l:List Tok} {d a b:Nat} {e:List Trm} (hs:isS l a [40]=true) (h:go l d (.un a)=some (.ok b e)):∃ d' b' e',go l d' (.lv 1 (a+1))=some (.ok b' e'):=by
 cases d with
 | zero=>cases h
 | succ d=>
   rw [go,if_neg (qbh hs (by decide)),if_neg (qbh hs (by decide)),if_neg (by rw [qb0 hs];decide),if_neg (by rw [qb0 hs];decide),if_pos hs] at h
   rcases qas h with ⟨b1,e1,g1,g2⟩ | ⟨k,g1,h2⟩
   ·exact ⟨d,b1,e1,g1⟩
   ·cases h2
theorem pickN (x:Int) (n:Nat) (h0:0<n) (h1:n<1000000):∃ k:Nat,k<n∧M24 x (n:Nat)=some (k:Int):=by
 show ∃ k:Nat,k<n∧T24 Ops.std x (n:Nat) some=_
 unfold T24
 simp only [qan,qah,qaa]
 rw [if_neg (by omega)]
 have h2:=Int.tmod_lt_of_pos x (show (0:Int)<(n:Nat) by omega)
 have h3:=Int.lt_tmod_of_pos x (show (0:Int)<(n:Nat) by omega)
 generalize Int.tmod x (n:Nat)=q at h2 h3 ⊢
 by_cases hq:q<0
 ·refine ⟨(q+n).toNat,by omega,?_⟩
  rw [if_pos hq,wrap64 (by omega) (by omega)]
  congr 1;omega
 ·refine ⟨q.toNat,by omega,?_⟩
  rw [if_neg hq]
  congr 1;omega
theorem next_ok (l:List Int) (pl:Nat) (a:Nat) (ha:a≤1000) (n:Nat) (h0:0<n) (h1:n<1000):∃ (k a':Nat),k<n∧a≤a'∧a'≤a+1∧M90 (n:Nat) l (a:Nat)=some ((k:Int),l,(a':Int)):=by
 show ∃ (k a':Nat),k<n∧a≤a'∧a'≤a+1∧T90 Ops.std M24 (n:Nat) l (a:Nat) some=_
 unfold T90
 simp only [qan,qak,qaa]
 by_cases hl:(l.length:Int)=0
 ·rw [if_pos hl]
  exact ⟨0,a,h0,Nat.le_refl _,by omega,rfl⟩
 ·have hw:IntKind.wrap IntKind.i64 ((a:Int)+1)=((a+1:Nat):Int):=qai (by omega)
  rw [if_neg hl,if_neg hl,hw]
  have ht:Int.tmod ((a+1:Nat):Int) (l.length:Nat)=(((a+1) % l.length:Nat):Int):=by rw [←Int.ofNat_tmod]
  have hd:Int.tdiv ((a+1:Nat):Int) (l.length:Nat)=(((a+1) / l.length:Nat):Int):=by rw [←Int.ofNat_tdiv]
  rw [ht,hd]
  have hlp:0<l.length:=by omega
  have hm:=Nat.mod_lt (a+1) hlp
  have hq:(a+1) / l.length≤a+1:=Nat.div_le_self _ _
  generalize (a+1) / l.length=q at hq ⊢
  generalize (a+1) % l.length=m at hm ⊢
  rw [if_pos (by omega),if_neg hl,wrap64 (n:=(q:Int)) (by omega) (by omega),wrap64 (n:=1+(q:Int)) (by omega) (by omega),if_neg (by omega)]
  obtain ⟨k,hk,hp⟩:=pickN (IntKind.wrap IntKind.i64 (Int.tdiv (l.getD (Int.toNat (m:Int)) (Ty.dflt ty3)) (1+(q:Int)))) n h0 (by omega)
  rw [hp,ob_s]
  exact ⟨k,a+1,hk,by omega,by omega,rfl⟩
def fA:Nat→Nat
 | 0=>3
 | h+1=>2*fA h+3
def FOk (l:List Int) (o:Option (List UInt8×List Int×Int)) (a b c:Nat):Prop:=∃ (s:List UInt8) (a':Nat),o=some (s,l,(a':Int))∧s.length≤b∧a≤a'∧a'≤a+c
theorem qcu {l:List (List UInt8)} {n:Nat} (h:l.all (fun x=>decide (x.length≤n))=true) (k:Nat):(l.getD k []).length≤n:=by
 rw [List.getD_eq_getElem?_getD]
 cases hk:l[k]? with
 | none=>simp
 | some x=>
   rw [List.all_eq_true] at h
   simpa using h x (List.mem_of_getElem? hk)
theorem FOk.mono {l:List Int} {o:Option (List UInt8×List Int×Int)} {a b c b' c':Nat} (h:FOk l o a b c) (hb:b≤b') (hc:c≤c'):FOk l o a b' c':=by
 obtain ⟨s,a',e1,e2,e3,e4⟩:=h
 exact ⟨s,a',e1,by omega,e3,by omega⟩
def eB:Nat→Nat
 | 0=>10
 | h+1=>2*eB h+10
theorem eB_le:∀ h,h≤4→eB h≤310∧fA h≤93:=by
 intro h hh
 match h with
 | 0 | 1 | 2 | 3 | 4=>decide
noncomputable abbrev nxt:=M90
theorem qdp (l:List Int) (a:Nat) (ha:a≤1000) (n:Nat) (m:Int) (hm:m=(n:Nat)) (h0:0<n) (h1:n<1000):∃ (k a':Nat),k<n∧a≤a'∧a'≤a+1∧M90 m l (a:Nat)=some ((k:Int),l,(a':Int)):=by
 subst hm
 exact next_ok l 0 a ha n h0 h1
end Go.Proofs.YtkmpkebaloejhaaDoor.Av
