/- The plain law of FormulaKids: what its twin computes answers true. Conditions: none. -/
import Derived.Test.YtkmpkebaloejhaaDoorFk2
import Derived.Test.YtkmpkebaloejhaaDoorRead
import Derived.KernelRfl
set_option linter.unusedSimpArgs false
set_option linter.unusedVariables false
set_option maxRecDepth 100000
namespace Go.Proofs.YtkmpkebaloejhaaDoor.Av
open Go
theorem qal (a b:Int):Ops.lt Ops.std a b=decide (a<b):=rfl
theorem qap (a b:Int):Ops.eq Ops.std a b=decide (a=b):=rfl
theorem qax (n b:Nat):Ops.lim Ops.std n b=decide (n*b≤140737488355328):=rfl
theorem qbd (a b:Int):Ops.le Ops.std a b=decide (a≤b):=by
 simp only [Ops.le,qal]
 by_cases h:a≤b
 ·have:¬ b<a:=by omega
  simp [h,this]
 ·have:b<a:=by omega
  simp [h,this]
theorem qan (j:Int) (n:Nat):Ops.inb Ops.std j n=decide (0≤j∧j<(n:Int)):=by
 simp only [Ops.inb,qal]
 by_cases h:j<0
 ·have:¬ (0≤j∧j<(n:Int)):=by omega
  simp [h,this]
 ·by_cases h2:j<(n:Int)
  ·have:(0≤j∧j<(n:Int)):=by omega
   simp [h,h2,this]
  ·have:¬ (0≤j∧j<(n:Int)):=by omega
   simp [h,h2,this]
theorem qac {α:Type} (p:Prop) [Decidable p] (x y:α):cond (decide p) x y=if p then x else y:=by by_cases h:p<;>simp [h]
theorem qa6 (p:Prop) [Decidable p]:(!decide p)=decide (¬ p):=by by_cases h:p<;>simp [h]
theorem ob_s {α R:Type} (a:α) (f:α→Option R):ob (some a) f=f a:=rfl
theorem cond_t {α:Type} (x y:α):cond true x y=x:=rfl
theorem cond_f {α:Type} (x y:α):cond false x y=y:=rfl
theorem wrap64 {n:Int} (h1:-9223372036854775808≤n) (h2:n≤9223372036854775807):IntKind.wrap IntKind.i64 n=n:=wrap_id h1 h2
theorem qag (n:Nat):Int.toNat (Nat.cast n)=n:=Int.toNat_natCast n
theorem qa7 {α:Type} (l:List α) (x:α) (r:List α) (d:α):(l++x::r).getD l.length d=x:=by
 rw [List.getD_eq_getElem?_getD,List.getElem?_append_right (Nat.le_refl _)];simp
theorem qb7 {α:Type} {s:List α} {n:Nat} (d:α) (h:n<s.length):s.drop n=s.getD n d::s.drop (n+1):=by
 rw [List.drop_eq_getElem_cons h]
 congr 1
 simp [List.getD_eq_getElem?_getD,List.getElem?_eq_getElem h]
def digitP' (b:UInt8):Bool:=decide (48≤b.toNat) && decide (b.toNat≤57)
def lowerP (b:UInt8):Bool:=(decide (97≤b.toNat) && decide (b.toNat≤122)) || decide (b.toNat=95)
def wordP (b:UInt8):Bool:=lowerP b || digitP' b
def isWordP:List UInt8→Bool
 | []=>false
 | b::r=>lowerP b && r.all wordP && decide (r.length+1≤8)
theorem qcc (b:UInt8):M105 (b.toNat:Int)=some (lowerP b):=by
 show T105 Ops.std _ some=_
 unfold T105 lowerP
 simp only [qbd,qap,qac]
 have e1:((97:Int)≤(b.toNat:Int))↔97≤b.toNat:=by omega
 have e2:((b.toNat:Int)≤(122:Int))↔b.toNat≤122:=by omega
 have e3:((b.toNat:Int)=(95:Int))↔b.toNat=95:=by omega
 simp only [e1,e2,e3]
 by_cases h1:97≤b.toNat<;>by_cases h2:b.toNat≤122<;>by_cases h3:b.toNat=95<;>simp [h1,h2,h3]
theorem qc0 (b:UInt8):M102 (b.toNat:Int)=some (digitP' b):=by
 show T102 Ops.std _ some=_
 unfold T102 digitP'
 simp only [qbd,qap,qac]
 have e1:((48:Int)≤(b.toNat:Int))↔48≤b.toNat:=by omega
 have e2:((b.toNat:Int)≤(57:Int))↔b.toNat≤57:=by omega
 simp only [e1,e2]
 by_cases h1:48≤b.toNat<;>by_cases h2:b.toNat≤57<;>simp [h1,h2]
theorem within_prog (b:UInt8):M106 (b.toNat:Int)=some (wordP b):=by
 show T106 Ops.std M105 M102 _ some=_
 unfold T106 wordP
 rw [qcc,qc0]
 simp only [ob_s]
 cases lowerP b<;>rfl
theorem run_prog {p:UInt8→Bool} {c:Int→Option Bool} (hc:∀ b:UInt8,c (b.toNat:Int)=some (p b)) (s:List UInt8) (hs:s.length<900000):F103 c s=some (s.takeWhile p):=by
 have h:∀ (t i n:Nat),i+t=s.length→t<n→R103 c s n (.l0 i)=some (s.take i++(s.drop i).takeWhile p):=by
  intro t
  induction t with
  | zero=>
    intro i n hi hn
    cases n with
    | zero=>omega
    | succ n=>
      show T103 Ops.std c s _ some _=_
      unfold T103
      simp only [qal,qan,qac,qag]
      rw [if_neg (by omega),if_pos (by omega),List.drop_eq_nil_of_le (show s.length≤i by omega)]
      simp
  | succ t ih=>
    intro i n hi hn
    cases n with
    | zero=>omega
    | succ n=>
      have hlt:i<s.length:=by omega
      show T103 Ops.std c s _ some _=_
      unfold T103
      have hw:IntKind.wrap IntKind.i64 ((i:Int)+1)=((i+1:Nat):Int):=qai (by omega)
      simp only [qal,qan,qac,qag]
      rw [if_pos (by omega),if_pos (by omega),hc,ob_s,qdv hlt]
      cases hp:p (s.getD i 0) with
      | true=>
        simp only [cond_true]
        rw [hw,ih (i+1) n (by omega) (by omega),List.takeWhile_cons_of_pos hp]
        have:s.take (i+1)=s.take i++[s.getD i 0]:=by
         rw [List.take_add_one]
         simp [List.getD_eq_getElem?_getD,List.getElem?_eq_getElem hlt]
        rw [this]
        simp
      | false=>
        simp only [cond_false]
        rw [if_pos (by omega),List.takeWhile_cons_of_neg (by rw [hp];decide)]
        simp
 show T103 Ops.std c s _ some none=_
 unfold T103
 have:=h s.length 0 1000000 (by omega) (by omega)
 rw [List.take_zero,List.drop_zero,List.nil_append] at this
 exact this
theorem runW_prog (s:List UInt8) (hs:s.length<900000):M103 s=some (s.takeWhile wordP):=run_prog within_prog s hs
theorem qbv {α:Type} (p:α→Bool):∀ l:List α,l.takeWhile p=l↔l.all p=true
 | []=>by simp
 | a::l=>by
   rw [List.takeWhile_cons,List.all_cons]
   cases hp:p a with
   | true=>simp [qbv p l]
   | false=>simp
theorem qc1 {b:UInt8} (h:lowerP b=true):wordP b=true:=by unfold wordP;rw [h];rfl
theorem isWord_prog (s:List UInt8):M95 s=some (isWordP s):=by
 unfold M95 F95 T95
 cases s with
 | nil=>rfl
 | cons b r=>
   simp only [qbd,qan,qac,isWordP,List.length_cons]
   have e1:(!(b::r) == ([]:List UInt8))=true:=rfl
   rw [e1,cond_t]
   by_cases h8:r.length+1≤8
   ·rw [if_pos (by omega),if_pos (by omega),show (b::r).getD (Int.toNat 0) 0=b from rfl,qcc,ob_s]
    cases hl:lowerP b with
    | false=>simp
    | true=>
      simp only [cond_true]
      rw [runW_prog _ (by simp;omega),ob_s]
      have hb:=qc1 hl
      simp only [Bool.true_and,h8,decide_true,Bool.and_true,Option.some.injEq]
      rw [Bool.eq_iff_iff,beq_iff_eq,qbv,List.all_cons,hb,Bool.true_and]
   ·rw [if_neg (by omega)]
    simp [h8]
abbrev Tok:=Int×List UInt8×Int×Int
def blankP (b:UInt8):Bool:=decide (b.toNat=32) || (decide (b.toNat=9) || decide (b.toNat=10))
def letterP (b:UInt8):Bool:=decide (b.toNat=88) || (decide (b.toNat=70) || (decide (b.toNat=71) || (decide (b.toNat=85) || decide (b.toNat=82))))
def valW (w:List UInt8):Int:=w.foldl (fun n b=>10*n+((b.toNat:Int)-48)) 0
def twos:List (List UInt8):=[[60,61],[62,61],[61,61],[33,61],[38,38],[124,124],[45,62]]
def ones:List UInt8:=[40,41,91,93,43,45,42,60,62,33,64,59,61]
def signS (s:List UInt8):List UInt8:=
 match twos.find? (fun p=>decide (1<s.length) && (s.take 2 == p)) with
 | some p=>p
 | none=>match ones.find? (fun b=>s.take 1 == [b]) with
   | some b=>s.take 1
   | none=>[]
def tokS (s:List UInt8):Option (Int×List UInt8×Int):=
 match s with
 | []=>none
 | b::r=>if digitP' b then (if (s.takeWhile digitP').length≤3 then some (1,s.takeWhile digitP',valW (s.takeWhile digitP')) else none)
   else if lowerP b then (if (s.takeWhile wordP).length≤8 then some (2,s.takeWhile wordP,0) else none)
   else if letterP b then some (3,[b],0)
   else if signS s=[] then none else some (4,signS s,0)
def lexGo:Nat→List UInt8→Nat→List Tok→Int×Int×List Tok
 | 0,_,at_,_=>(2,(at_:Int),[])
 | _+1,[],at_,out=>(0,0,out++[((5,[],0,(at_:Int)):Tok)])
 | f+1,b::r,at_,out=>if blankP b then lexGo f r (at_+1) out else
   match tokS (b::r) with
   | none=>(2,(at_:Int),[])
   | some (k,w,n)=>lexGo f ((b::r).drop w.length) (at_+w.length) (out++[((k,w,n,(at_:Int)):Tok)])
def lexS (s:List UInt8):Int×Int×List Tok:=if 60000<s.length then (14,0,[]) else lexGo (s.length+1) s 0 []
theorem signS_len (s:List UInt8):(signS s).length≤2∧(signS s).length≤s.length∧s.take (signS s).length=signS s:=by
 unfold signS
 cases h:twos.find? (fun p=>decide (1<s.length) && (s.take 2 == p)) with
 | some p=>
   have h1:=List.find?_some h
   simp only [Bool.and_eq_true,decide_eq_true_eq,beq_iff_eq] at h1
   simp only []
   rw [←h1.2,List.length_take,Nat.min_eq_left (by omega)]
   exact ⟨by omega,by omega,rfl⟩
 | none=>
   simp only []
   cases h2:ones.find? (fun b=>s.take 1 == [b]) with
   | some b=>
     simp only [List.length_take]
     refine ⟨by omega,by omega,?_⟩
     cases s<;>simp
   | none=>simp
theorem tw_len {p:UInt8→Bool}:∀ (l:List UInt8),(l.takeWhile p).length≤l.length∧l.take (l.takeWhile p).length=l.takeWhile p
 | []=>by simp
 | a::l=>by
   rw [List.takeWhile_cons]
   cases hp:p a with
   | true=>have:=tw_len (p:=p) l;simp [this]
   | false=>simp
theorem valW_snoc (w:List UInt8) (b:UInt8):valW (w++[b])=10*valW w+((b.toNat:Int)-48):=by simp [valW,List.foldl_append]
theorem take_snoc (w:List UInt8) (n:Nat) (h:n<w.length):w.take (n+1)=w.take n++[w.getD n 0]:=by
 rw [List.take_add_one]
 simp [List.getD_eq_getElem?_getD,List.getElem?_eq_getElem h]
theorem wrap8 {n:Int} (h1:0≤n) (h2:n≤255):IntKind.wrap IntKind.u8 n=n:=by
 have e1:(2:Int) ^ IntKind.u8.bits=256:=by decide
 have e3:IntKind.u8.signed=false:=rfl
 simp only [IntKind.wrap,e1,e3,Bool.false_and,decide_eq_true_eq]
 simp
 omega
theorem digit_val {b:UInt8} (h:digitP' b=true):48≤b.toNat∧b.toNat≤57:=by
 unfold digitP' at h
 simpa using h
theorem qeb:∀ (n:Nat) (w:List UInt8),w.length=n→(∀ b∈w,digitP' b=true)→0≤valW w∧valW w<10 ^ n:=by
 intro n
 induction n with
 | zero=>intro w hw _;cases w with
   | nil=>simp [valW]
   | cons=>simp at hw
 | succ n ih=>
   intro w hw hd
   have hne:w≠[]:=by intro h;rw [h] at hw;simp at hw
   obtain ⟨l,b,rfl⟩:∃ l b,w=l++[b]:=⟨w.dropLast,w.getLast hne,(List.dropLast_concat_getLast hne).symm⟩
   have h1:=ih l (by simpa using hw) fun b hb=>hd b (by simp [hb])
   have h2:=digit_val (hd b (by simp))
   rw [valW_snoc]
   have h3:(10:Int) ^ (n+1)=10*10 ^ n:=by rw [Int.pow_succ];omega
   rw [h3]
   generalize (10:Int) ^ n=q at h1 ⊢
   omega
theorem tw_all {p:UInt8→Bool}:∀ (l:List UInt8),∀ b∈l.takeWhile p,p b=true
 | [],b,h=>by simp at h
 | a::l,b,h=>by
   rw [List.takeWhile_cons] at h
   cases hp:p a with
   | false=>rw [hp] at h;simp at h
   | true=>
     rw [hp] at h
     simp only [if_true,List.mem_cons] at h
     rcases h with rfl | h
     ·exact hp
     ·exact tw_all (p:=p) l b h
section
variable (s:List UInt8) (hs:s.length≤60000)
end
theorem tok_len {s:List UInt8} {k n:Int} {w:List UInt8} (h:tokS s=some (k,w,n)):0<w.length∧w.length≤s.length∧s.take w.length=w∧k≠0∧k≠5:=by
 cases s with
 | nil=>simp [tokS] at h
 | cons b r=>
   simp only [tokS] at h
   split at h
   ·rename_i hd
    split at h
    ·simp only [Option.some.injEq,Prod.mk.injEq] at h
     obtain ⟨rfl,rfl,rfl⟩:=h
     have h1:=tw_len (p:=digitP') (b::r)
     refine ⟨?_,h1.1,h1.2,by decide,by decide⟩
     rw [List.takeWhile_cons,hd];simp
    ·cases h
   ·split at h
    ·rename_i hd hl
     split at h
     ·simp only [Option.some.injEq,Prod.mk.injEq] at h
      obtain ⟨rfl,rfl,rfl⟩:=h
      have h1:=tw_len (p:=wordP) (b::r)
      refine ⟨?_,h1.1,h1.2,by decide,by decide⟩
      rw [List.takeWhile_cons,qc1 hl];simp
     ·cases h
    ·split at h
     ·simp only [Option.some.injEq,Prod.mk.injEq] at h
      obtain ⟨rfl,rfl,rfl⟩:=h
      exact ⟨by simp,by simp,by simp,by decide,by decide⟩
     ·split at h
      ·cases h
      ·rename_i hne
       simp only [Option.some.injEq,Prod.mk.injEq] at h
       obtain ⟨rfl,rfl,rfl⟩:=h
       have h1:=signS_len (b::r)
       refine ⟨?_,h1.2.1,h1.2.2,by decide,by decide⟩
       cases hq:signS (b::r) with
       | nil=>exact absurd hq hne
       | cons=>simp
def tokOK (t:Tok):Prop:=(t.1=1→0≤t.2.2.1∧t.2.2.1≤999)∧(t.1=2→isWordP t.2.1=true)
theorem tokS_ok {s:List UInt8} {k n:Int} {w:List UInt8} (h:tokS s=some (k,w,n)) (x:Int):tokOK (k,w,n,x):=by
 cases s with
 | nil=>simp [tokS] at h
 | cons b r=>
   simp only [tokS] at h
   split at h
   ·rename_i hd
    split at h
    ·rename_i h3
     simp only [Option.some.injEq,Prod.mk.injEq] at h
     obtain ⟨rfl,rfl,rfl⟩:=h
     refine ⟨fun _=>?_,fun h=>(by cases h)⟩
     have:=qeb _ ((b::r).takeWhile digitP') rfl fun b hb=>tw_all _ b hb
     have hl:((b::r).takeWhile digitP').length=0∨((b::r).takeWhile digitP').length=1∨((b::r).takeWhile digitP').length=2∨((b::r).takeWhile digitP').length=3:=by omega
     rcases hl with hl | hl | hl | hl<;>rw [hl] at this<;>simp at this ⊢<;>omega
    ·cases h
   ·split at h
    ·rename_i hd hl
     split at h
     ·rename_i h8
      simp only [Option.some.injEq,Prod.mk.injEq] at h
      obtain ⟨rfl,rfl,rfl⟩:=h
      refine ⟨fun h=>(by cases h),fun _=>?_⟩
      rw [List.takeWhile_cons,qc1 hl] at h8 ⊢
      simp only [if_true,List.length_cons] at h8 ⊢
      simp only [isWordP,hl,Bool.true_and,Bool.and_eq_true,List.all_eq_true,decide_eq_true_eq]
      exact ⟨fun b hb=>tw_all _ b hb,h8⟩
     ·cases h
    ·split at h
     ·simp only [Option.some.injEq,Prod.mk.injEq] at h
      obtain ⟨rfl,rfl,rfl⟩:=h
      exact ⟨fun h=>(by cases h),fun h=>(by cases h)⟩
     ·split at h
      ·cases h
      ·simp only [Option.some.injEq,Prod.mk.injEq] at h
       obtain ⟨rfl,rfl,rfl⟩:=h
       exact ⟨fun h=>(by cases h),fun h=>(by cases h)⟩
def toksOK (l:List Tok):Prop:=∃ (q:List Tok) (x:Int),l=q++[(5,[],0,x)]∧∀ t∈q,t.1≠5∧tokOK t
theorem lexGo_ok:∀ (f:Nat) (s:List UInt8) (a:Nat) (out:List Tok),(∀ t∈out,t.1≠5∧tokOK t)→∀ (e x:Int) (l:List Tok),lexGo f s a out=(e,x,l)→e=0→toksOK l∧l.length≤out.length+s.length+1
 | 0,s,a,out,ho,e,x,l,h,he=>by
   simp only [lexGo,Prod.mk.injEq] at h
   omega
 | f+1,[],a,out,ho,e,x,l,h,he=>by
   simp only [lexGo,Prod.mk.injEq] at h
   obtain ⟨_,_,rfl⟩:=h
   exact ⟨⟨out,a,rfl,ho⟩,by simp⟩
 | f+1,b::r,a,out,ho,e,x,l,h,he=>by
   simp only [lexGo] at h
   split at h
   ·have:=lexGo_ok f r (a+1) out ho e x l h he
    exact ⟨this.1,by simp;omega⟩
   ·split at h
    ·simp only [Prod.mk.injEq] at h
     omega
    ·rename_i k w n ht
     have h1:=tok_len ht
     have:=lexGo_ok f ((b::r).drop w.length) (a+w.length) (out++[(k,w,n,(a:Int))]) (fun t ht'=>by
      rcases List.mem_append.1 ht' with h2 | h2
      ·exact ho t h2
      ·simp at h2;subst h2;exact ⟨h1.2.2.2.2,tokS_ok ht _⟩) e x l h he
     refine ⟨this.1,?_⟩
     have h2:=this.2
     simp only [List.length_append,List.length_cons,List.length_nil,List.length_drop] at h2 ⊢
     omega
theorem lexS_ok {s:List UInt8} {x:Int} {l:List Tok} (h:lexS s=(0,x,l)):toksOK l∧l.length≤s.length+1∧s.length≤60000:=by
 unfold lexS at h
 split at h
 ·simp at h
 ·have:=lexGo_ok _ s 0 [] (by simp) 0 x l h rfl
  exact ⟨this.1,by simpa using this.2,by omega⟩
abbrev Trm:=Int×Int×List UInt8×List UInt8
def opn (k:Int):Int:=
 if k=1∨k=2∨k=3 then 0 else if k=4∨k=8∨k=11∨k=12 then 1 else if k=5∨k=6∨k=7∨k=9∨k=10 then 2 else -1
theorem opn_cases (k:Int):opn k=0∨opn k=1∨opn k=2∨opn k = -1:=by
 unfold opn
 split
 ·simp
 ·split
  ·simp
  ·split<;>simp
section
variable {X:Type} (E:List X→Bool)
def badP (p:Int×List X) (d:Int):Bool:=
 decide (opn p.1<0) || decide (d<opn p.1) || (decide (p.1=3) && !E p.2) || (!decide (p.1=3) && decide (0<p.2.length))
def rGo:List (Int×List X)→Int→Option Int
 | [],d=>some d
 | p::r,d=>if badP E p d then none else rGo r (d+1-opn p.1)
inductive Fm (X:Type) where
 | nul (p:Int×List X)
 | un (p:Int×List X) (a:Fm X)
 | bi (p:Int×List X) (a b:Fm X)
def Fm.flat:Fm X→List (Int×List X)
 | .nul p=>[p]
 | .un p a=>a.flat++[p]
 | .bi p a b=>a.flat++b.flat++[p]
def Fm.size:Fm X→Nat
 | .nul _=>1
 | .un _ a=>a.size+1
 | .bi _ a b=>a.size+b.size+1
def Fm.wf:Fm X→Prop
 | .nul p=>opn p.1=0∧(p.1=3→E p.2=true)∧(p.1≠3→p.2=[])
 | .un p a=>opn p.1=1∧p.2=[]∧a.wf
 | .bi p a b=>opn p.1=2∧p.2=[]∧a.wf∧b.wf
theorem Fm.flat_len (t:Fm X):t.flat.length=t.size:=by
 induction t with
 | nul=>rfl
 | un p a ih=>simp [Fm.flat,Fm.size,ih]
 | bi p a b iha ihb=>simp [Fm.flat,Fm.size,iha,ihb];omega
theorem Fm.size_pos (t:Fm X):0<t.size:=by cases t<;>simp [Fm.size]
theorem ne3 {k n:Int} (h:opn k=n) (hn:n≠0):k≠3:=by
 rintro rfl
 exact hn (by rw [←h];rfl)
theorem rGo_flat (t:Fm X) (ht:t.wf E):∀ (r:List (Int×List X)) (d:Int),0≤d→rGo E (t.flat++r) d=rGo E r (d+1):=by
 induction t with
 | nul p=>
   intro r d hd
   obtain ⟨h1,h2,h3⟩:=ht
   have hb:badP E p d=false:=by
    unfold badP
    rw [h1]
    by_cases h:p.1=3
    ·simp [h,h2 h];omega
    ·simp [h,h3 h];omega
   simp only [Fm.flat,List.cons_append,List.nil_append,rGo,hb,h1]
   simp
 | un p a ih=>
   intro r d hd
   obtain ⟨h1,h2,h3⟩:=ht
   have hb:badP E p (d+1)=false:=by
    unfold badP
    rw [h1,h2]
    have:=ne3 h1 (by omega)
    simp [this];omega
   simp only [Fm.flat,List.append_assoc]
   rw [ih h3 _ d hd]
   simp only [List.cons_append,List.nil_append,rGo,hb,h1]
   simp
 | bi p a b iha ihb=>
   intro r d hd
   obtain ⟨h1,h2,h3,h4⟩:=ht
   have hb:badP E p (d+1+1)=false:=by
    unfold badP
    rw [h1,h2]
    have:=ne3 h1 (by omega)
    simp [this];omega
   simp only [Fm.flat,List.append_assoc]
   rw [iha h3 _ d hd,ihb h4 _ (d+1) (by omega)]
   simp only [List.cons_append,List.nil_append,rGo,hb,h1]
   simp;congr 1;omega
def flats:List (Fm X)→List (Int×List X)
 | []=>[]
 | t::ts=>flats ts++t.flat
def wfs:List (Fm X)→Prop
 | []=>True
 | t::ts=>t.wf E∧wfs ts
theorem qch:∀ (l:List (Int×List X)) (ts:List (Fm X)) (n:Int),wfs E ts→rGo E l ts.length=some n→∃ us:List (Fm X),wfs E us∧(us.length:Int)=n∧flats us=flats ts++l
 | [],ts,n,h,hr=>by
  simp only [rGo,Option.some.injEq] at hr
  exact ⟨ts,h,hr,by simp⟩
 | p::r,ts,n,h,hr=>by
   simp only [rGo] at hr
   cases hb:badP E p ts.length with
   | true=>rw [hb] at hr;simp at hr
   | false=>
     rw [hb] at hr
     simp only [Bool.false_eq_true,if_false] at hr
     unfold badP at hb
     simp only [Bool.or_eq_false_iff,decide_eq_false_iff_not,Bool.and_eq_false_iff,Bool.not_eq_false'] at hb
     obtain ⟨⟨⟨h1,h2⟩,h3⟩,h4⟩:=hb
     rcases opn_cases p.1 with ho | ho | ho | ho
     ·have hw:(Fm.nul p).wf E:=⟨ho,fun h=>by rcases h3 with h3 | h3;exact absurd h h3;exact h3,fun h=>by
       rcases h4 with h4 | h4
       ·simp at h4;exact absurd h4 h
       ·cases hp:p.2 with
        | nil=>rfl
        | cons a b=>rw [hp] at h4;simp at h4⟩
      rw [ho] at hr
      obtain ⟨us,e1,e2,e3⟩:=qch r (.nul p::ts) n ⟨hw,h⟩ (by rw [←hr];congr 1<;>simp)
      exact ⟨us,e1,e2,by rw [e3];simp [flats,Fm.flat]⟩
     ·have hp2:p.2=[]:=by
       have:=ne3 ho (by omega)
       rcases h4 with h4 | h4
       ·simp at h4;exact absurd h4 this
       ·cases hp:p.2 with
        | nil=>rfl
        | cons a b=>rw [hp] at h4;simp at h4
      rw [ho] at hr h2
      cases ts with
      | nil=>simp at h2
      | cons t ts=>
        obtain ⟨us,e1,e2,e3⟩:=qch r (.un p t::ts) n ⟨⟨ho,hp2,h.1⟩,h.2⟩ (by rw [←hr];congr 1<;>simp)
        exact ⟨us,e1,e2,by rw [e3];simp [flats,Fm.flat]⟩
     ·have hp2:p.2=[]:=by
       have:=ne3 ho (by omega)
       rcases h4 with h4 | h4
       ·simp at h4;exact absurd h4 this
       ·cases hp:p.2 with
        | nil=>rfl
        | cons a b=>rw [hp] at h4;simp at h4
      rw [ho] at hr h2
      cases ts with
      | nil=>simp at h2
      | cons t ts=>
        cases ts with
        | nil=>simp at h2
        | cons u ts=>
          obtain ⟨us,e1,e2,e3⟩:=qch r (.bi p u t::ts) n ⟨⟨ho,hp2,h.2.1,h.1⟩,h.2.2⟩ (by rw [←hr];congr 1<;>(simp<;>omega))
          exact ⟨us,e1,e2,by rw [e3];simp [flats,Fm.flat]⟩
     ·omega
def rightF (f:List (Int×List X)):Bool:=(match rGo E f 0 with
 | some d=>decide (d=1)
 | none=>false) && decide (f.length≤60)
theorem rightF_tree {f:List (Int×List X)} (h:rightF E f=true):∃ t:Fm X,t.wf E∧f=t.flat∧t.size≤60:=by
 unfold rightF at h
 simp only [Bool.and_eq_true,decide_eq_true_eq] at h
 obtain ⟨h1,h2⟩:=h
 cases hr:rGo E f 0 with
 | none=>rw [hr] at h1;cases h1
 | some d=>
   rw [hr] at h1
   simp at h1
   subst h1
   obtain ⟨us,e1,e2,e3⟩:=qch E f [] 1 trivial hr
   cases us with
   | nil=>simp at e2
   | cons t ts=>
     cases ts with
     | cons=>simp at e2;omega
     | nil=>
       simp [flats] at e3
       exact ⟨t,e1.1,e3.symm,by rw [←Fm.flat_len,e3];exact h2⟩
theorem tree_rightF {t:Fm X} (ht:t.wf E) (hs:t.size≤60):rightF E t.flat=true:=by
 unfold rightF
 have:=rGo_flat E t ht [] 0 (by omega)
 rw [List.append_nil] at this
 rw [this]
 simp [rGo,Fm.flat_len,hs]
def Fm.kids:Fm X→Nat→List (List Int)
 | .nul _,_=>[[]]
 | .un _ a,b=>a.kids b++[[((b+a.size-1:Nat):Int)]]
 | .bi _ a c,b=>a.kids b++c.kids (b+a.size)++[[((b+a.size-1:Nat):Int),((b+a.size+c.size-1:Nat):Int)]]
theorem Fm.kids_len (t:Fm X):∀ b,(t.kids b).length=t.size:=by
 induction t with
 | nul=>intro b;rfl
 | un p a ih=>intro b;simp [Fm.kids,Fm.size,ih]
 | bi p a c iha ihc=>intro b;simp [Fm.kids,Fm.size,iha,ihc];omega
end
theorem opn_prog (k:Int):M82 k=some (opn k):=by
 show T82 Ops.std k some=_
 unfold T82 opn
 simp only [qap,qac]
 (repeat' split)<;>first | rfl | (exfalso;omega)
abbrev Prt:=Int×List Trm
def smallF (f:List Prt):Prop:=f.length<900000∧∀ p∈f,p.2.length<900000
theorem smallF.at {f:List Prt} (h:smallF f) {i:Nat} (hi:i<f.length):(f.getD i (Ty.dflt ty78)).2.length<900000:=by
 refine h.2 _ ?_
 rw [List.getD_eq_getElem?_getD,List.getElem?_eq_getElem hi]
 exact List.getElem_mem _
def fin60 (f:List Prt) (o:Option Int):Bool:=match o with
 | some d=>decide (d=1) && decide (f.length≤60)
 | none=>false
theorem rightF_fin (E:List Trm→Bool) (f:List Prt):rightF E f=fin60 f (rGo E f 0):=by
 unfold rightF fin60
 cases rGo E f 0<;>rfl
theorem opn_le (k:Int):-1≤opn k∧opn k≤2:=by rcases opn_cases k with h | h | h | h<;>rw [h]<;>decide
section
variable (E:List Trm→Bool) (f:List Prt) (hf:smallF f)
theorem qb3 (hE:∀ p∈f,M22 p.2=some (E p.2)) (hf:smallF f):∀ (t i n:Nat) (d:Int),i+t=f.length→t<n→0≤d→d≤i→
  R48 M82 M22 f n (.l0 d (f.length:Nat) i)=some (fin60 f (rGo E (f.drop i) d))
 | t,i,0,d,hi,hn,h0,hd=>by omega
 | 0,i,n+1,d,hi,hn,h0,hd=>by
   show T48 Ops.std _ _ f _ some _=_
   unfold T48
   simp only [qal,qap,qbd,qac]
   rw [if_neg (by omega),List.drop_eq_nil_of_le (by omega)]
   simp only [rGo,fin60]
   by_cases h1:d=1
   ·rw [if_pos h1];simp [h1];omega
   ·rw [if_neg h1];simp [h1]
 | t+1,i,n+1,d,hi,hn,h0,hd=>by
   have hlt:i<f.length:=by omega
   have ih:=fun d=>qb3 hE hf t (i+1) n d (by omega) (by omega)
   have hl:=hf.1
   show T48 Ops.std _ _ f _ some _=_
   unfold T48
   have hs:=hf.at hlt
   have hmem:f.getD i (Ty.dflt ty78)∈f:=by
    rw [List.getD_eq_getElem?_getD,List.getElem?_eq_getElem hlt]
    exact List.getElem_mem _
   rw [qb7 (Ty.dflt ty78) hlt]
   simp only [qal,qap,qbd,qan,qac,qa6,qag,rGo,badP]
   generalize f.getD i (Ty.dflt ty78)=p at hs hmem ⊢
   obtain ⟨hb1,hb2⟩:=opn_le p.1
   rw [if_pos (by omega),if_pos (by omega),opn_prog,ob_s]
   by_cases h1:opn p.1<0
   ·rw [if_pos h1];simp [h1,fin60]
   ·rw [if_neg h1]
    by_cases h2:d<opn p.1
    ·rw [if_pos h2];simp [h1,h2,fin60]
    ·rw [if_neg h2]
     have hw:IntKind.wrap IntKind.i64 (d+IntKind.wrap IntKind.i64 (1-opn p.1))=d+1-opn p.1:=by
      rw [wrap64 (n:=1-opn p.1) (by omega) (by omega),wrap64 (by omega) (by omega)];omega
     have hw2:IntKind.wrap IntKind.i64 ((i:Int)+1)=((i+1:Nat):Int):=qai (by omega)
     rw [hw,hw2]
     have hgo:=ih (d+1-opn p.1) (by omega) (by omega)
     by_cases h3:p.1=3
     ·rw [if_pos h3,hE _ hmem,ob_s]
      cases he:E p.2 with
      | false=>simp [h1,h2,h3,he,fin60]
      | true=>
        simp only [Bool.not_true,cond_false]
        rw [if_neg (by simp [h3])]
        refine hgo.trans ?_
        have h1':=h1
        have h2':=h2
        rw [h3] at h1' h2'
        simp [h3,he,h1',h2']
     ·rw [if_neg h3,if_pos (by simp [h3])]
      by_cases h4:(0:Int)<(p.2.length:Int)
      ·rw [if_pos h4]
       have:0<p.2.length:=by omega
       simp [h1,h2,h3,this,fin60]
      ·rw [if_neg h4]
       have:¬ 0<p.2.length:=by omega
       refine hgo.trans ?_
       simp [h1,h2,h3,this]
theorem qec (hE:∀ p∈f,M22 p.2=some (E p.2)) (hf:smallF f):M48 f=some (rightF E f):=by
 show T48 Ops.std M82 M22 f (R48 M82 M22 f 1000000) some none=_
 unfold T48
 have:=qb3 E f hE hf f.length 0 1000000 0 (by omega) (by have:=hf.1;omega) (by omega) (by omega)
 rw [rightF_fin]
 exact this
end
def opE (k:Int):Int:=if k<1∨16<k then -1 else if k≤3 then 0 else if k≤5 then 1 else 2
theorem opE_prog (k:Int):M50 k=some (opE k):=by
 show T50 Ops.std k some=_
 unfold T50 opE
 simp only [qap,qbd,qal,qac]
 (repeat' split)<;>first | rfl | (exfalso;omega)
def mayT (t:Trm):Bool:=
 if t.1=1 then decide (0≤t.2.1) && decide (t.2.1≤999) && (t.2.2.1 == []) && (t.2.2.2 == [])
 else if t.1=2 then decide (t.2.1=0) && isWordP t.2.2.1 && (t.2.2.2 == [])
 else if t.1=3 then decide (t.2.1=0) && isWordP t.2.2.1 && isWordP t.2.2.2
 else decide (0<opE t.1) && decide (t.2.1=0) && (t.2.2.1 == []) && (t.2.2.2 == [])
theorem may_prog (a b:Int) (c d:List UInt8):M58 a b c d=some (mayT (a,b,c,d)):=by
 show T58 Ops.std M95 M50 a b c d some=_
 unfold T58 mayT
 simp only [qap,qbd,qal,qac,isWord_prog,opE_prog,ob_s]
 by_cases h1:a=1
 ·simp only [h1,if_true]
  by_cases h2:0≤b<;>by_cases h3:b≤999<;>cases hc:(c == ([]:List UInt8))<;>simp [h2,h3,hc]
 ·simp only [h1,if_false]
  by_cases h2:a=2
  ·simp only [h2,if_true]
   by_cases h3:b=0<;>cases hc:isWordP c<;>simp [h3,hc]
  ·simp only [h2,if_false]
   by_cases h3:a=3
   ·simp only [h3,if_true]
    by_cases h4:b=0<;>cases hc:isWordP c<;>simp [h4,hc]
   ·simp only [h3,if_false]
    by_cases h4:0<opE a<;>by_cases h5:b=0<;>cases hc:(c == ([]:List UInt8))<;>simp [h4,h5,hc]
def eGo:List Trm→Int→Option Int
 | [],d=>some d
 | p::r,d=>if !mayT p || decide (d<opE p.1) then none else eGo r (d+1-opE p.1)
def fin30 (f:List Trm) (o:Option Int):Bool:=match o with
 | some d=>decide (d=1) && decide (f.length≤30)
 | none=>false
def rightE (e:List Trm):Bool:=fin30 e (eGo e 0)
theorem opE_le (k:Int):-1≤opE k∧opE k≤2:=by unfold opE;(repeat' split)<;>omega
theorem mayT_op {t:Trm} (h:mayT t=true):0≤opE t.1:=by
 unfold mayT at h
 unfold opE at *
 (repeat' split at h)<;>(repeat' split)<;>simp_all<;>omega
theorem qbw (f:List Trm) (hf:f.length<900000):∀ (t i n:Nat) (d:Int),i+t=f.length→t<n→0≤d→d≤i→
  R22 M50 M58 f n (.l0 d (f.length:Nat) i)=some (fin30 f (eGo (f.drop i) d))
 | t,i,0,d,hi,hn,h0,hd=>by omega
 | 0,i,n+1,d,hi,hn,h0,hd=>by
   show T22 Ops.std _ _ f _ some _=_
   unfold T22
   simp only [qal,qap,qbd,qac]
   rw [if_neg (by omega),List.drop_eq_nil_of_le (by omega)]
   simp only [eGo,fin30]
   by_cases h1:d=1
   ·rw [if_pos h1];simp [h1];omega
   ·rw [if_neg h1];simp [h1]
 | t+1,i,n+1,d,hi,hn,h0,hd=>by
   have hlt:i<f.length:=by omega
   have ih:=fun d=>qbw f hf t (i+1) n d (by omega) (by omega)
   show T22 Ops.std _ _ f _ some _=_
   unfold T22
   rw [qb7 (Ty.dflt ty56) hlt]
   simp only [qal,qap,qbd,qan,qac,qa6,qag,eGo]
   generalize f.getD i (Ty.dflt ty56)=p
   obtain ⟨hb1,hb2⟩:=opE_le p.1
   rw [if_pos (by omega),if_pos (by omega),opE_prog,ob_s,may_prog,ob_s]
   have hp:mayT (p.1,p.2.1,p.2.2.1,p.2.2.2)=mayT p:=rfl
   rw [hp]
   cases hm:mayT p with
   | false=>simp [fin30]
   | true=>
     have:=mayT_op hm
     simp only [Bool.not_true,cond_false,Bool.false_or]
     by_cases h2:d<opE p.1
     ·rw [if_pos h2];simp [h2,fin30]
     ·rw [if_neg h2]
      have hw:IntKind.wrap IntKind.i64 (d+IntKind.wrap IntKind.i64 (1-opE p.1))=d+1-opE p.1:=by
       rw [wrap64 (n:=1-opE p.1) (by omega) (by omega),wrap64 (by omega) (by omega)];omega
      rw [hw,show IntKind.wrap IntKind.i64 ((i:Int)+1)=((i+1:Nat):Int) from qai (by omega),ih _ (by omega) (by omega)]
      simp [h2]
theorem rightE_prog (f:List Trm) (hf:f.length<900000):M22 f=some (rightE f):=by
 show T22 Ops.std M50 M58 f (R22 M50 M58 f 1000000) some none=_
 unfold T22
 exact qbw f hf f.length 0 1000000 0 (by omega) (by omega) (by omega) (by omega)
def smallE (f:List Trm):Prop:=f.length<900000∧∀ p∈f,p.2.2.1.length<900000∧p.2.2.2.length<900000
theorem smallE.at {f:List Trm} (h:smallE f) {i:Nat} (hi:i<f.length):(f.getD i (Ty.dflt ty56)).2.2.1.length<900000∧(f.getD i (Ty.dflt ty56)).2.2.2.length<900000:=by
 refine h.2 _ ?_
 rw [List.getD_eq_getElem?_getD,List.getElem?_eq_getElem hi]
 exact List.getElem_mem _
theorem toks_len {l:List Tok} (h:toksOK l):0<l.length:=by
 obtain ⟨q,x,rfl,_⟩:=h;simp
theorem qdx {l:List Tok} (h:toksOK l) {i:Nat} (hi:i<l.length) (d:Tok):(i+1<l.length∨(l.getD i d).1=5)∧tokOK (l.getD i d)∧((l.getD i d).1=5→i+1=l.length):=by
 obtain ⟨q,x,rfl,hq⟩:=h
 simp only [List.length_append,List.length_cons,List.length_nil] at hi ⊢
 by_cases hlt:i<q.length
 ·have hg:(q++[(5,[],0,x)]).getD i d=q[i]:=by
   rw [List.getD_eq_getElem?_getD,List.getElem?_append_left hlt,List.getElem?_eq_getElem hlt];rfl
  rw [hg]
  have:=hq _ (List.getElem_mem hlt)
  exact ⟨.inl (by omega),this.2,fun h=>absurd h this.1⟩
 ·have hi':i=q.length:=by omega
  subst hi'
  rw [qa7]
  exact ⟨.inr rfl,⟨fun h=>(by cases h),fun h=>(by cases h)⟩,fun _=>rfl⟩
theorem qaw {l:List Tok} (h:toksOK l) {i:Nat} (hi:i<l.length) (d:Tok) (hk:(l.getD i d).1≠5):i+1<l.length:=by
 rcases (qdx h hi d).1 with h1 | h1
 ·exact h1
 ·exact absurd h1 hk
def goodE (e:List Trm):Prop:=∀ (r:List Trm) (d:Int),0≤d→eGo (e++r) d=eGo r (d+1)
theorem goodE.nul {t:Trm} (h:mayT t=true) (ho:opE t.1=0):goodE [t]:=fun r d hd=>by
 simp only [List.cons_append,List.nil_append,eGo,h,ho]
 rw [if_neg (by simp;omega)]
 congr 1;omega
theorem goodE.un {e:List Trm} {t:Trm} (he:goodE e) (h:mayT t=true) (ho:opE t.1=1):goodE (e++[t]):=fun r d hd=>by
 rw [List.append_assoc,he _ d hd]
 simp only [List.cons_append,List.nil_append,eGo,h,ho]
 rw [if_neg (by simp;omega)]
 congr 1;omega
theorem goodE.bi {e e2:List Trm} {t:Trm} (he:goodE e) (he2:goodE e2) (h:mayT t=true) (ho:opE t.1=2):goodE (e++e2++[t]):=fun r d hd=>by
 rw [List.append_assoc,List.append_assoc,he _ d hd,he2 _ (d+1) (by omega)]
 simp only [List.cons_append,List.nil_append,eGo,h,ho]
 rw [if_neg (by simp;omega)]
 congr 1;omega
theorem goodE.right {e:List Trm} (h:goodE e) (hl:e.length≤30):rightE e=true:=by
 have:=h [] 0 (by omega)
 rw [List.append_nil] at this
 unfold rightE
 rw [this]
 simp [eGo,fin30,hl]
theorem may_op {k:Int} (h:4≤k) (h2:k≤16):mayT (k,0,[],[])=true:=by
 have:0<opE k:=by unfold opE;(repeat' split)<;>omega
 unfold mayT
 rw [if_neg (by show ¬ k=1;omega),if_neg (by show ¬ k=2;omega),if_neg (by show ¬ k=3;omega)]
 simp [this]
abbrev tkD (l:List Tok) (a:Nat):Tok:=l.getD a (Ty.dflt ty85)
def isS (l:List Tok) (a:Nat) (w:List UInt8):Bool:=decide ((tkD l a).1=4) && ((tkD l a).2.1 == w)
def sgW (w:List UInt8):Int×Nat:=
 if w=[42] then (6,5) else if w=[43] then (7,4) else if w=[45] then (8,4) else if w=[60] then (9,3) else if w=[60,61] then (10,3) else if w=[62] then (11,3) else if w=[62,61] then (12,3) else if w=[61,61] then (13,3) else if w=[33,61] then (14,3) else if w=[38,38] then (15,2) else if w=[124,124] then (16,1) else (0,0)
def sgE (l:List Tok) (a:Nat):Int×Nat:=if (tkD l a).1=4 then sgW (tkD l a).2.1 else (0,0)
theorem sgW_cases (w:List UInt8):sgW w=(0,0)∨(6≤(sgW w).1∧(sgW w).1≤16):=by
 unfold sgW
 (repeat' split)<;>decide
theorem sgE_op {l:List Tok} {a n:Nat} (h:(sgE l a).2=n) (hn:1≤n):6≤(sgE l a).1∧(sgE l a).1≤16∧(tkD l a).1=4:=by
 unfold sgE at h ⊢
 by_cases hk:(tkD l a).1=4
 ·rw [if_pos hk] at h ⊢
  rcases sgW_cases (tkD l a).2.1 with hc | hc
  ·rw [hc] at h;have h:0=n:=h;omega
  ·exact ⟨hc.1,hc.2,hk⟩
 ·rw [if_neg hk] at h;have h:0=n:=h;omega
theorem mayN {n:Int} (h:0≤n∧n≤999):mayT (1,n,[],[])=true:=by simp [mayT,h]
theorem mayV {w:List UInt8} (h:isWordP w=true):mayT (2,0,w,[])=true:=by simp [mayT,h]
theorem mayA {w v:List UInt8} (h:isWordP w=true) (h2:isWordP v=true):mayT (3,0,w,v)=true:=by simp [mayT,h,h2]
inductive PS where
 | lv (n a:Nat)
 | lp (n b:Nat) (e:List Trm)
 | un (a:Nat)
inductive PR where
 | ok (b:Nat) (e:List Trm)
 | bad (k:Nat)
def onOk (r:Option PR) (f:Nat→List Trm→Option PR):Option PR:=match r with
 | some (.ok b e)=>f b e
 | some (.bad k)=>some (.bad k)
 | none=>none
def go (l:List Tok):Nat→PS→Option PR
 | 0,_=>none
 | d+1,.lv n a=>if n=6 then go l d (.un a) else onOk (go l d (.lv (n+1) a)) fun b e=>go l d (.lp n b e)
 | d+1,.lp n b e=>if (sgE l b).2=n then onOk (go l d (.lv (n+1) (b+1))) fun c e2=>if n=3 then some (.ok c (e++e2++[((sgE l b).1,0,[],[])])) else go l d (.lp n c (e++e2++[((sgE l b).1,0,[],[])])) else some (.ok b e)
 | d+1,.un a=>
   if isS l a [33] then onOk (go l d (.un (a+1))) fun b e=>some (.ok b (e++[(4,0,[],[])]))
   else if isS l a [45] then onOk (go l d (.un (a+1))) fun b e=>some (.ok b (e++[(5,0,[],[])]))
   else if (tkD l a).1=1 then some (.ok (a+1) [(1,(tkD l a).2.2.1,[],[])])
   else if (tkD l a).1=2 then if isS l (a+1) [64] then if (tkD l (a+2)).1=2 then some (.ok (a+3) [(3,0,(tkD l a).2.1,(tkD l (a+2)).2.1)]) else some (.bad (a+2)) else some (.ok (a+1) [(2,0,(tkD l a).2.1,[])])
   else if isS l a [40] then onOk (go l d (.lv 1 (a+1))) fun b e=>if isS l b [41] then some (.ok (b+1) e) else some (.bad b)
   else some (.bad a)
def PE (l:List Tok) (s:PS) (r:PR):Prop:=∃ d0,∀ d,d0≤d→go l d s=some r
theorem PE.run {l:List Tok} {s:PS} {r:PR} (h:PE l s r):∃ d,go l d s=some r:=by
 obtain ⟨d,h⟩:=h
 exact ⟨d,h d (Nat.le_refl _)⟩
section
variable {l:List Tok}
theorem pe1 {s:PS} {r:PR} (h:∀ d,go l (d+1) s=some r):PE l s r:=⟨1,fun d hd=>by
 obtain ⟨g,rfl⟩:∃ g,d=g+1:=⟨d-1,by omega⟩
 exact h g⟩
theorem pe2 {s s1:PS} {r r1:PR} (h1:PE l s1 r1) (h:∀ d,go l d s1=some r1→go l (d+1) s=some r):PE l s r:=by
 obtain ⟨d0,h1⟩:=h1
 exact ⟨d0+1,fun d hd=>by
  obtain ⟨g,rfl⟩:∃ g,d=g+1:=⟨d-1,by omega⟩
  exact h g (h1 g (by omega))⟩
theorem pe3 {s s1 s2:PS} {r r1 r2:PR} (h1:PE l s1 r1) (h2:PE l s2 r2) (h:∀ d,go l d s1=some r1→go l d s2=some r2→go l (d+1) s=some r):PE l s r:=by
 obtain ⟨d1,h1⟩:=h1
 obtain ⟨d2,h2⟩:=h2
 exact ⟨d1+d2+1,fun d hd=>by
  obtain ⟨g,rfl⟩:∃ g,d=g+1:=⟨d-1,by omega⟩
  exact h g (h1 g (by omega)) (h2 g (by omega))⟩
theorem pe_six {a:Nat} {r:PR} (h:PE l (.un a) r):PE l (.lv 6 a) r:=pe2 h fun d h=>by rw [go,if_pos rfl,h]
theorem pe_bad {n a k:Nat} (hn:n≠6) (h:PE l (.lv (n+1) a) (.bad k)):PE l (.lv n a) (.bad k):=pe2 h fun d h=>by rw [go,if_neg hn,h];rfl
theorem pe_lv {n a b:Nat} {e:List Trm} {r:PR} (hn:n≠6) (h:PE l (.lv (n+1) a) (.ok b e)) (h2:PE l (.lp n b e) r):PE l (.lv n a) r:=pe3 h h2 fun d h h2=>by rw [go,if_neg hn,h];exact h2
theorem pe_stop {n b:Nat} {e:List Trm} (h:(sgE l b).2≠n):PE l (.lp n b e) (.ok b e):=pe1 fun d=>by rw [go,if_neg h]
theorem pe_lpbad {n b k:Nat} {e:List Trm} (hs:(sgE l b).2=n) (h:PE l (.lv (n+1) (b+1)) (.bad k)):PE l (.lp n b e) (.bad k):=pe2 h fun d h=>by rw [go,if_pos hs,h];rfl
theorem pe_three {b c:Nat} {e e2:List Trm} (hs:(sgE l b).2=3) (h:PE l (.lv 4 (b+1)) (.ok c e2)):PE l (.lp 3 b e) (.ok c (e++e2++[((sgE l b).1,0,[],[])])):=pe2 h fun d h=>by rw [go,if_pos hs,h];rfl
theorem pe_more {n b c:Nat} {e e2:List Trm} {r:PR} (hn:n≠3) (hs:(sgE l b).2=n) (h:PE l (.lv (n+1) (b+1)) (.ok c e2)) (h2:PE l (.lp n c (e++e2++[((sgE l b).1,0,[],[])])) r):PE l (.lp n b e) r:=pe3 h h2 fun d h h2=>by
 rw [go,if_pos hs,h]
 show (if n=3 then _ else _)=_
 rw [if_neg hn,h2]
theorem pe_not {a b:Nat} {e:List Trm} (hs:isS l a [33]=true) (h:PE l (.un (a+1)) (.ok b e)):PE l (.un a) (.ok b (e++[(4,0,[],[])])):=pe2 h fun d h=>by rw [go,if_pos hs,h];rfl
theorem pe_notb {a k:Nat} (hs:isS l a [33]=true) (h:PE l (.un (a+1)) (.bad k)):PE l (.un a) (.bad k):=pe2 h fun d h=>by rw [go,if_pos hs,h];rfl
theorem qed {a:Nat} {w v:List UInt8} (h:isS l a w=true) (hv:w≠v):¬ isS l a v=true:=fun h2=>by
 unfold isS at h h2
 simp only [Bool.and_eq_true,decide_eq_true_eq,beq_iff_eq] at h h2
 exact hv (h.2.symm.trans h2.2)
theorem qdi {a:Nat} {w:List UInt8} (h:(tkD l a).1≠4):¬ isS l a w=true:=fun h2=>by
 unfold isS at h2
 simp only [Bool.and_eq_true,decide_eq_true_eq] at h2
 exact h h2.1
theorem qc2 {a:Nat} {w:List UInt8} (h:isS l a w=true):(tkD l a).1=4:=by
 unfold isS at h
 simp only [Bool.and_eq_true,decide_eq_true_eq] at h
 exact h.1
theorem pe_neg {a b:Nat} {e:List Trm} (hs:isS l a [45]=true) (h:PE l (.un (a+1)) (.ok b e)):PE l (.un a) (.ok b (e++[(5,0,[],[])])):=pe2 h fun d h=>by rw [go,if_neg (qed hs (by decide)),if_pos hs,h];rfl
theorem pe_negb {a k:Nat} (hs:isS l a [45]=true) (h:PE l (.un (a+1)) (.bad k)):PE l (.un a) (.bad k):=pe2 h fun d h=>by rw [go,if_neg (qed hs (by decide)),if_pos hs,h];rfl
theorem pe_num {a:Nat} (hk:(tkD l a).1=1):PE l (.un a) (.ok (a+1) [(1,(tkD l a).2.2.1,[],[])]):=pe1 fun d=>by
 rw [go,if_neg (qdi (by rw [hk];decide)),if_neg (qdi (by rw [hk];decide)),if_pos hk]
theorem pe_word {a:Nat} (hk:(tkD l a).1=2):PE l (.un a) (if isS l (a+1) [64] then if (tkD l (a+2)).1=2 then .ok (a+3) [(3,0,(tkD l a).2.1,(tkD l (a+2)).2.1)] else .bad (a+2) else .ok (a+1) [(2,0,(tkD l a).2.1,[])]):=pe1 fun d=>by
 rw [go,if_neg (qdi (by rw [hk];decide)),if_neg (qdi (by rw [hk];decide)),if_neg (by rw [hk];decide),if_pos hk]
 (repeat' split)<;>rfl
theorem pe_brab {a k:Nat} (hs:isS l a [40]=true) (h:PE l (.lv 1 (a+1)) (.bad k)):PE l (.un a) (.bad k):=pe2 h fun d h=>by
 rw [go,if_neg (qed hs (by decide)),if_neg (qed hs (by decide)),if_neg (by rw [qc2 hs];decide),if_neg (by rw [qc2 hs];decide),if_pos hs,h];rfl
theorem pe_bra {a b:Nat} {e:List Trm} (hs:isS l a [40]=true) (h:PE l (.lv 1 (a+1)) (.ok b e)):PE l (.un a) (if isS l b [41] then .ok (b+1) e else .bad b):=pe2 h fun d h=>by
 rw [go,if_neg (qed hs (by decide)),if_neg (qed hs (by decide)),if_neg (by rw [qc2 hs];decide),if_neg (by rw [qc2 hs];decide),if_pos hs,h]
 show (if _ then _ else _)=_
 split<;>rfl
theorem pe_none {a:Nat} (h1:¬ isS l a [33]=true) (h2:¬ isS l a [45]=true) (h3:(tkD l a).1≠1) (h4:(tkD l a).1≠2) (h5:¬ isS l a [40]=true):PE l (.un a) (.bad a):=pe1 fun d=>by
 rw [go,if_neg h1,if_neg h2,if_neg h3,if_neg h4,if_neg h5]
def PS.at:PS→Nat
 | .lv _ a=>a
 | .lp _ b _=>b
 | .un a=>a
def PS.lvl:PS→Nat
 | .lv n _=>n
 | .lp n _ _=>n
 | .un _=>6
def Bd (l:List Tok):PS→PR→Prop
 | .lp _ a e0,.ok b e=>a≤b∧b<l.length∧e.length≤e0.length+(b-a)∧(goodE e0→goodE e)
 | s,.ok b e=>s.at<b∧b<l.length∧e.length≤b-s.at∧goodE e
 | s,.bad k=>s.at≤k∧k<l.length
theorem qci {r:Option PR} {f:Nat→List Trm→Option PR} {q:PR} (h:onOk r f=some q):(∃ b e,r=some (.ok b e)∧f b e=some q)∨∃ k,r=some (.bad k)∧q=.bad k:=by
 cases r with
 | none=>cases h
 | some x=>
   cases x with
   | ok b e=>exact .inl ⟨b,e,rfl,h⟩
   | bad k=>exact .inr ⟨k,rfl,(Option.some.inj h).symm⟩
theorem qc3 (hl:toksOK l):∀ (d:Nat) (s:PS) (r:PR),1≤s.lvl→s.at<l.length→go l d s=some r→Bd l s r
 | 0,s,r,_,_,h=>by cases h
 | d+1,.lv n a,r,h1,ha,h=>by
   have ha:a<l.length:=ha
   have h1:1≤n:=h1
   rw [go] at h
   split at h
   ·have:=qc3 hl d _ r (by show 1≤6;omega) (by exact ha) h
    cases r<;>exact this
   ·rcases qci h with ⟨b,e,g1,g2⟩ | ⟨k,g1,rfl⟩
    ·obtain ⟨i1,i2,i3,i4⟩:=qc3 hl d (.lv (n+1) a) _ (by show 1≤n+1;omega) (by exact ha) g1
     have i1:a<b:=i1
     have i3:e.length≤b-a:=i3
     have:=qc3 hl d (.lp n b e) r h1 i2 g2
     cases r with
     | ok c e2=>
       obtain ⟨j1,j2,j3,j4⟩:=this
       exact ⟨by show a<c;omega,j2,by show e2.length≤c-a;omega,j4 i4⟩
     | bad k=>
       obtain ⟨j1,j2⟩:=this
       have j1:b≤k:=j1
       exact ⟨by show a≤k;omega,j2⟩
    ·exact qc3 hl d (.lv (n+1) a) _ (by show 1≤n+1;omega) (by exact ha) g1
 | d+1,.lp n b e,r,h1,hb,h=>by
   have hb:b<l.length:=hb
   have h1:1≤n:=h1
   rw [go] at h
   split at h
   ·rename_i hs
    obtain ⟨o1,o2,o3⟩:=sgE_op hs h1
    have hb1:=qaw hl hb (Ty.dflt ty85) (by rw [o3];decide)
    have hgood:∀ e2,goodE e2→goodE e→goodE (e++e2++[((sgE l b).1,0,[],[])]):=fun e2 h2 h=>h.bi h2 (may_op (by omega) o2) (by
     show opE (sgE l b).1=2
     unfold opE;(repeat' split)<;>omega)
    rcases qci h with ⟨c,e2,g1,g2⟩ | ⟨k,g1,rfl⟩
    ·obtain ⟨i1,i2,i3,i4⟩:=qc3 hl d (.lv (n+1) (b+1)) _ (by show 1≤n+1;omega) hb1 g1
     have i1:b+1<c:=i1
     have i3:e2.length≤c-(b+1):=i3
     split at g2
     ·cases g2
      exact ⟨by omega,i2,by simp;omega,hgood e2 i4⟩
     ·have:=qc3 hl d (.lp n c _) r h1 i2 g2
      cases r with
      | ok c' e'=>
        obtain ⟨j1,j2,j3,j4⟩:=this
        simp only [List.length_append,List.length_cons,List.length_nil] at j3
        exact ⟨by omega,j2,by omega,fun h=>j4 (hgood e2 i4 h)⟩
      | bad k=>
        obtain ⟨j1,j2⟩:=this
        have j1:c≤k:=j1
        exact ⟨by show b≤k;omega,j2⟩
    ·obtain ⟨j1,j2⟩:=qc3 hl d (.lv (n+1) (b+1)) _ (by show 1≤n+1;omega) hb1 g1
     have j1:b+1≤k:=j1
     exact ⟨by show b≤k;omega,j2⟩
   ·cases h
    exact ⟨Nat.le_refl _,hb,by omega,fun h=>h⟩
 | d+1,.un a,r,h1,ha,h=>by
   have ha:a<l.length:=ha
   obtain ⟨ht1,⟨ht2,ht3⟩,ht4⟩:=qdx hl ha (Ty.dflt ty85)
   have hnx:=qaw hl ha (Ty.dflt ty85)
   have pre:∀ (op:Int),(op=4∨op=5)→(tkD l a).1=4→onOk (go l d (.un (a+1))) (fun b e=>some (.ok b (e++[(op,0,[],[])])))=some r→Bd l (.un a) r:=fun op hop h4 h=>by
    have hb1:=hnx (by rw [h4];decide)
    rcases qci h with ⟨c,e2,g1,g2⟩ | ⟨k,g1,rfl⟩
    ·obtain ⟨i1,i2,i3,i4⟩:=qc3 hl d (.un (a+1)) _ (by show 1≤6;omega) hb1 g1
     have i1:a+1<c:=i1
     have i3:e2.length≤c-(a+1):=i3
     cases g2
     refine ⟨by show a<c;omega,i2,by show _≤c-a;simp;omega,i4.un (may_op (by omega) (by omega)) ?_⟩
     show opE op=1
     unfold opE;(repeat' split)<;>omega
    ·obtain ⟨j1,j2⟩:=qc3 hl d (.un (a+1)) _ (by show 1≤6;omega) hb1 g1
     have j1:a+1≤k:=j1
     exact ⟨by show a≤k;omega,j2⟩
   rw [go] at h
   split at h
   ·rename_i hs;exact pre 4 (.inl rfl) (qc2 hs) h
   ·split at h
    ·rename_i hs;exact pre 5 (.inr rfl) (qc2 hs) h
    ·split at h
     ·rename_i hk
      have hb1:=hnx (by rw [hk];decide)
      have hn:=ht2 hk
      cases h
      refine ⟨by show a<a+1;omega,hb1,by show 1≤a+1-a;omega,goodE.nul (mayN hn) rfl⟩
     ·split at h
      ·rename_i hk
       have hb1:=hnx (by rw [hk];decide)
       have hn:=ht3 hk
       split at h
       ·rename_i hs
        have hb2:=qaw hl hb1 (Ty.dflt ty85) (by rw [qc2 hs];decide)
        split at h
        ·rename_i hk2
         have hb3:=qaw hl hb2 (Ty.dflt ty85) (by rw [hk2];decide)
         have hn2:=(qdx hl hb2 (Ty.dflt ty85)).2.1.2 hk2
         cases h
         refine ⟨by show a<a+3;omega,hb3,by show 1≤a+3-a;omega,goodE.nul (mayA hn hn2) rfl⟩
        ·cases h
         exact ⟨by show a≤a+2;omega,hb2⟩
       ·cases h
        refine ⟨by show a<a+1;omega,hb1,by show 1≤a+1-a;omega,goodE.nul (mayV hn) rfl⟩
      ·split at h
       ·rename_i hs
        have hb1:=hnx (by rw [qc2 hs];decide)
        rcases qci h with ⟨c,e2,g1,g2⟩ | ⟨k,g1,rfl⟩
        ·obtain ⟨i1,i2,i3,i4⟩:=qc3 hl d (.lv 1 (a+1)) _ (Nat.le_refl 1) hb1 g1
         have i1:a+1<c:=i1
         have i3:e2.length≤c-(a+1):=i3
         split at g2
         ·rename_i hs2
          have hb2:=qaw hl i2 (Ty.dflt ty85) (by rw [qc2 hs2];decide)
          cases g2
          exact ⟨by show a<c+1;omega,hb2,by show _≤c+1-a;omega,i4⟩
         ·cases g2
          exact ⟨by show a≤c;omega,i2⟩
        ·obtain ⟨j1,j2⟩:=qc3 hl d (.lv 1 (a+1)) _ (Nat.le_refl 1) hb1 g1
         have j1:a+1≤k:=j1
         exact ⟨by show a≤k;omega,j2⟩
       ·cases h
        exact ⟨Nat.le_refl _,ha⟩
theorem PE.bd {s:PS} {r:PR} (h:PE l s r) (hl:toksOK l) (h1:1≤s.lvl) (ha:s.at<l.length):Bd l s r:=by
 obtain ⟨d,h⟩:=h.run
 exact qc3 hl d s r h1 ha h
end
theorem run2_prog {p:UInt8→Bool} {c:Int→Option Bool} (hc:∀ b:UInt8,c (b.toNat:Int)=some (p b)) (s:List UInt8) (hs:s.length<900000):F178 c s=some (s.takeWhile p):=by
 have h:∀ (t i n:Nat),i+t=s.length→t<n→R178 c s n (.l0 i)=some (s.take i++(s.drop i).takeWhile p):=by
  intro t
  induction t with
  | zero=>
    intro i n hi hn
    cases n with
    | zero=>omega
    | succ n=>
      show T178 Ops.std c s _ some _=_
      unfold T178
      simp only [qal,qan,qac,qag]
      rw [if_neg (by omega),if_pos (by omega),List.drop_eq_nil_of_le (show s.length≤i by omega)]
      simp
  | succ t ih=>
    intro i n hi hn
    cases n with
    | zero=>omega
    | succ n=>
      have hlt:i<s.length:=by omega
      show T178 Ops.std c s _ some _=_
      unfold T178
      have hw:IntKind.wrap IntKind.i64 ((i:Int)+1)=((i+1:Nat):Int):=qai (by omega)
      simp only [qal,qan,qac,qag]
      rw [if_pos (by omega),if_pos (by omega),hc,ob_s,qdv hlt]
      cases hp:p (s.getD i 0) with
      | true=>
        simp only [cond_true]
        rw [hw,ih (i+1) n (by omega) (by omega),List.takeWhile_cons_of_pos hp]
        have:s.take (i+1)=s.take i++[s.getD i 0]:=by
         rw [List.take_add_one]
         simp [List.getD_eq_getElem?_getD,List.getElem?_eq_getElem hlt]
        rw [this]
        simp
      | false=>
        simp only [cond_false]
        rw [if_pos (by omega),List.takeWhile_cons_of_neg (by rw [hp];decide)]
        simp
 show T178 Ops.std c s _ some none=_
 unfold T178
 have:=h s.length 0 1000000 (by omega) (by omega)
 rw [List.take_zero,List.drop_zero,List.nil_append] at this
 exact this
theorem runD_prog (s:List UInt8) (hs:s.length<900000):M178 s=some (s.takeWhile digitP'):=run2_prog qc0 s hs
theorem qee (l:List Int) (x:Int) (hl:l.length<900000):∀ (t i n:Nat),i+t=l.length→t<n→
  R101 l x n (.l0 l.length i)=some (if x∈l.drop i then ((i+(l.drop i).findIdx (fun y=>decide (x=y)):Nat):Int) else -1)
 | t,i,0,hi,hn=>by omega
 | 0,i,n+1,hi,hn=>by
   show T101 Ops.std l x _ some _=_
   unfold T101
   simp only [qal,qac]
   rw [if_neg (by omega),List.drop_eq_nil_of_le (by omega)]
   simp
 | t+1,i,n+1,hi,hn=>by
   have ih:=qee l x hl t (i+1) n (by omega) (by omega)
   have hd:l.drop i=l.getD i 0::l.drop (i+1):=qb7 0 (by omega)
   show T101 Ops.std l x _ some _=_
   unfold T101
   have hw:IntKind.wrap IntKind.i64 ((i:Int)+1)=((i+1:Nat):Int):=qai (by omega)
   simp only [qal,qan,qap,qac,qag,hw]
   rw [if_pos (by omega),if_pos (by omega),hd]
   have hdf:l.getD i (Ty.dflt ty5)=l.getD i 0:=rfl
   rw [hdf]
   by_cases hx:x=l.getD i 0
   ·rw [if_pos hx,if_pos (by rw [hx];exact List.mem_cons_self ..),List.findIdx_cons,decide_eq_true hx,cond_t]
    simp
   ·rw [if_neg hx]
    refine Eq.trans ih ?_
    rw [List.findIdx_cons]
    have:decide (x=l.getD i 0)=false:=decide_eq_false hx
    rw [this,cond_f]
    simp only [List.mem_cons,hx,false_or]
    by_cases hm:x∈l.drop (i+1)
    ·rw [if_pos hm,if_pos hm];congr 1;omega
    ·rw [if_neg hm,if_neg hm]
theorem qcj (l:List Int) (x:Int) (hl:l.length<900000):M66 l x=some (decide (x∈l)):=by
 have h0:=qee l x hl l.length 0 1000000 (by omega) (by omega)
 have h:M101 l x=some (if x∈l.drop 0 then ((0+(l.drop 0).findIdx (fun y=>decide (x=y)):Nat):Int) else -1):=by
  show T101 Ops.std l x (R101 l x 1000000) some none=_
  unfold T101
  exact h0
 show T66 Ops.std M101 l x some=_
 unfold T66
 rw [h,ob_s,qbd,List.drop_zero]
 by_cases hm:x∈l
 ·rw [if_pos hm];simp [hm]
 ·rw [if_neg hm];simp [hm]
theorem qdy (w:List UInt8) (h3:w.length≤3) (hd:∀ b∈w,digitP' b=true):∀ (t i n:Nat),i+t=w.length→t<n→R104 w n (.l0 (valW (w.take i)) w.length i)=some (valW w)
 | t,i,0,hi,hn=>by omega
 | 0,i,n+1,hi,hn=>by
   show T104 Ops.std w _ some _=_
   unfold T104
   simp only [qal,qac]
   rw [if_neg (by omega),List.take_of_length_le (by omega)]
 | t+1,i,n+1,hi,hn=>by
   have ih:=qdy w h3 hd t (i+1) n (by omega) (by omega)
   have hb:=qeb i (w.take i) (by rw [List.length_take];omega) fun b hb=>hd b (List.mem_of_mem_take hb)
   have hmem:w.getD i 0∈w:=by
    rw [List.getD_eq_getElem?_getD,List.getElem?_eq_getElem (show i<w.length by omega)]
    exact List.getElem_mem _
   have hv:=digit_val (hd _ hmem)
   have h100:0≤valW (w.take i)∧valW (w.take i)<1000:=by
    have hi3:i=0∨i=1∨i=2:=by omega
    rcases hi3 with rfl | rfl | rfl<;>simp at hb ⊢<;>omega
   rw [take_snoc w i (by omega),valW_snoc] at ih
   show T104 Ops.std w _ some _=_
   unfold T104
   have hw:IntKind.wrap IntKind.i64 ((i:Int)+1)=((i+1:Nat):Int):=qai (by omega)
   simp only [qal,qan,qac,qag,hw]
   rw [if_pos (by omega),if_pos (by omega),wrap8 (by omega) (by omega),wrap64 (n:=(((w.getD i 0).toNat:Int)-48)) (by omega) (by omega),wrap64 (n:=10*valW (w.take i)) (by omega) (by omega),wrap64 (by omega) (by omega)]
   exact ih
theorem number_prog (w:List UInt8) (h3:w.length≤3) (hd:∀ b∈w,digitP' b=true):M104 w=some (valW w):=by
 have:=qdy w h3 hd w.length 0 1000000 (by omega) (by omega)
 rw [List.take_zero,show valW []=0 from rfl] at this
 show T104 Ops.std w (R104 w 1000000) some none=_
 unfold T104
 exact this
def preP (s p:List UInt8):Bool:=s.take p.length == p
theorem prefix_prog (s p:List UInt8):M108 s p=some (preP s p):=by
 show T108 Ops.std M126 s p some=_
 unfold T108
 have:M126 s p=some (preP s p):=by
  show T126 Ops.std s p some=_
  unfold T126 preP
  simp only [qbd,qan,qac,qag]
  by_cases h:p.length≤s.length
  ·rw [if_pos (by omega),if_pos (by omega)]
   simp
  ·have hne:s.take p.length≠p:=by
    intro he
    have:=congrArg List.length he
    rw [List.length_take] at this
    omega
   simp [h,hne]
 rw [this]
 rfl
def signsP:List (List UInt8):=[[60,61],[62,61],[61,61],[33,61],[38,38],[124,124],[45,62],[40],[41],[91],[93],[43],[45],[42],[60],[62],[33],[64],[59],[61]]
theorem signs_prog:M107=some signsP:=rfl
theorem qef {α:Type} {p q:α→Bool}:∀ {l:List α},(∀ x∈l,p x=q x)→l.find? p=l.find? q
 | [],_=>rfl
 | a::l,h=>by
   rw [List.find?_cons,List.find?_cons,h a (List.mem_cons_self ..),qef (l:=l) fun x hx=>h x (List.mem_cons_of_mem _ hx)]
theorem signsP_find (s:List UInt8):signsP.find? (preP s)=if signS s=[] then none else some (signS s):=by
 have e:signsP=twos++ones.map fun b=>[b]:=rfl
 have e2:twos.find? (preP s)=twos.find? (fun p=>decide (1<s.length) && (s.take 2 == p)):=qef fun p hp=>by
  have hl:p.length=2:=by
   have:∀ q∈twos,q.length=2:=by decide
   exact this p hp
  unfold preP
  rw [hl]
  by_cases h1:1<s.length
  ·simp [h1]
  ·have:s.take 2≠p:=by
    intro he
    have:=congrArg List.length he
    rw [List.length_take] at this
    omega
   simp [h1,this]
 rw [e,List.find?_append,e2,List.find?_map]
 unfold signS
 cases h:twos.find? (fun p=>decide (1<s.length) && (s.take 2 == p)) with
 | some p=>
   have hne:p≠[]:=by
    have:∀ q∈twos,q≠[]:=by decide
    exact this p (List.mem_of_find?_eq_some h)
   simp [hne]
 | none=>
   have e3:(preP s ∘ fun b=>[b])=fun b=>s.take 1 == [b]:=rfl
   rw [e3]
   cases h2:ones.find? (fun b=>s.take 1 == [b]) with
   | some b=>
     have h3:=List.find?_some h2
     simp only [beq_iff_eq] at h3
     simp [h3]
   | none=>simp
noncomputable abbrev tokR (s:List UInt8):=R67 M102 M103 M178 M104 M105 M106 M66 M107 M108 s
theorem qdz (s:List UInt8) (l:List (List UInt8)) (hl:l.length<1000):∀ (t i n:Nat),i+t=l.length→t<n→tokR s n (.l0 l.length i l)=some (match (l.drop i).find? (preP s) with
  | some p=>(4,p,0,0)
  | none=>(0,[],0,0))
 | t,i,0,hi,hn=>by omega
 | 0,i,n+1,hi,hn=>by
   show T67 Ops.std _ _ _ _ _ _ _ _ _ s _ some _=_
   unfold T67
   simp only [qal,qac]
   rw [if_neg (by omega),List.drop_eq_nil_of_le (by omega)]
   rfl
 | t+1,i,n+1,hi,hn=>by
   have ih:=qdz s l hl t (i+1) n (by omega) (by omega)
   have hd:l.drop i=l.getD i (Ty.dflt ty9)::l.drop (i+1):=qb7 _ (by omega)
   show T67 Ops.std _ _ _ _ _ _ _ _ _ s _ some _=_
   unfold T67
   have hw:IntKind.wrap IntKind.i64 ((i:Int)+1)=((i+1:Nat):Int):=qai (by omega)
   simp only [qal,qan,qac,qag,hw,prefix_prog,ob_s]
   rw [if_pos (by omega),if_pos (by omega),hd,List.find?_cons]
   cases hp:preP s (l.getD i (Ty.dflt ty9)) with
   | true=>simp only [cond_true]
   | false=>
     simp only [cond_false]
     exact ih
theorem token_prog (s:List UInt8) (h0:0<s.length) (hs:s.length<900000):M67 s=some (match tokS s with
  | some (k,w,n)=>(k,w,n,0)
  | none=>(0,[],0,0)):=by
 show T67 Ops.std M102 M103 M178 M104 M105 M106 M66 M107 M108 s (tokR s 1000000) some none=_
 unfold T67
 cases s with
 | nil=>simp at h0
 | cons b r=>
   have hsg:=qdz (b::r) signsP (by decide) 20 0 1000000 rfl (by omega)
   have e0:(b::r).getD (Int.toNat 0) 0=b:=rfl
   simp only [qan,qbd,qac,e0,qc0,qcc,signs_prog,runD_prog _ hs,runW_prog _ hs,ob_s]
   rw [if_pos (by omega),tokS]
   cases hdg:digitP' b with
   | true=>
     simp only [cond_true,if_true]
     by_cases h3:((b::r).takeWhile digitP').length≤3
     ·rw [if_pos (by omega),if_pos h3,number_prog _ h3 (tw_all _),ob_s]
     ·rw [if_neg (by omega),if_neg h3]
   | false=>
     simp only [cond_false,Bool.false_eq_true,if_false]
     cases hlw:lowerP b with
     | true=>
       simp only [cond_true,if_true]
       by_cases h8:((b::r).takeWhile wordP).length≤8
       ·rw [if_pos (by omega),if_pos h8]
       ·rw [if_neg (by omega),if_neg h8]
     | false=>
       simp only [cond_false,Bool.false_eq_true,if_false]
       have hc:M66 (88::70::71::85::82::mt (Ty.den (Ty.int IntKind.u8))) (b.toNat:Int)=some (letterP b):=by
        refine (qcj _ _ (by simp [mt])).trans ?_
        congr 1
        rw [Bool.eq_iff_iff]
        simp only [decide_eq_true_eq,letterP,Bool.or_eq_true,List.mem_cons,mt,List.not_mem_nil,or_false]
        omega
       rw [hc,ob_s]
       cases hlt:letterP b with
       | true=>
         simp only [cond_true,if_true]
         rw [if_pos (by omega)]
         rfl
       | false=>
         simp only [cond_false,Bool.false_eq_true,if_false]
         refine Eq.trans hsg ?_
         rw [List.drop_zero,signsP_find]
         by_cases hn:signS (b::r)=[]
         ·rw [if_pos hn,if_pos hn]
         ·rw [if_neg hn,if_neg hn]
noncomputable abbrev lexPR (s:List UInt8):=R29 M66 M67 s
theorem lexP_go (s:List UInt8) (hs:s.length≤60000):∀ (f a n:Nat) (out:List Tok),s.length-a<f→a≤s.length→s.length-a<n→out.length≤a→
  lexPR s n (.l0 a out)=some (lexGo f (s.drop a) a out)
 | 0,a,n,out,hf,ha,hn,ho=>by omega
 | f+1,a,0,out,hf,ha,hn,ho=>by omega
 | f+1,a,n+1,out,hf,ha,hn,ho=>by
   have ih:=lexP_go s hs f
   show T29 Ops.std _ _ s _ some _=_
   unfold T29
   by_cases hend:a=s.length
   ·rw [List.drop_eq_nil_of_le (by omega)]
    simp only [qal,qax,qac,mt,List.length_cons,List.length_nil]
    rw [if_neg (by omega),if_pos (by omega),hend]
    rfl
   ·have halt:a<s.length:=by omega
    have hd:s.drop a=s.getD a 0::s.drop (a+1):=qdv halt
    have hw1:IntKind.wrap IntKind.i64 ((a:Int)+1)=((a+1:Nat):Int):=qai (by omega)
    have hc:M66 (32::9::10::mt (Ty.den (Ty.int IntKind.u8))) ((s.getD a 0).toNat:Int)=some (blankP (s.getD a 0)):=by
     refine (qcj _ _ (by simp [mt])).trans ?_
     congr 1
     rw [Bool.eq_iff_iff]
     simp only [decide_eq_true_eq,blankP,Bool.or_eq_true,List.mem_cons,mt,List.not_mem_nil,or_false]
     omega
    have htk:=token_prog (s.drop a) (by rw [List.length_drop];omega) (by rw [List.length_drop];omega)
    simp only [qal,qan,qap,qax,qac,qag,hw1,hc,ob_s,List.take_length,htk]
    rw [if_pos (by omega),if_pos (by omega)]
    cases hb:blankP (s.getD a 0) with
    | true=>
      simp only [cond_true]
      refine Eq.trans (ih (a+1) n out (by omega) (by omega) (by omega) (by omega)) ?_
      rw [hd]
      simp only [lexGo,hb,if_true]
    | false=>
      simp only [cond_false]
      rw [if_pos (by omega)]
      cases ht:tokS (s.drop a) with
      | none=>
        simp only [if_true]
        rw [hd] at ht ⊢
        simp only [lexGo,hb,ht,Bool.false_eq_true,if_false]
      | some x=>
        obtain ⟨k,w,v⟩:=x
        obtain ⟨h1,h2,h3,h4,h5⟩:=tok_len ht
        rw [List.length_drop] at h2
        simp only [if_neg h4,mt,List.length_cons,List.length_nil]
        rw [if_pos (by omega),show IntKind.wrap IntKind.i64 ((a:Int)+(w.length:Int))=((a+w.length:Nat):Int) by rw [wrap64 (by omega) (by omega)];omega]
        refine Eq.trans (ih (a+w.length) n _ (by omega) (by omega) (by omega) (by simp;omega)) ?_
        have ht':=ht
        rw [hd] at ht ⊢
        simp only [lexGo,hb,ht,Bool.false_eq_true,if_false]
        rw [←hd,List.drop_drop]
theorem lex_prog (s:List UInt8):M29 s=some (lexS s):=by
 show T29 Ops.std M66 M67 s (lexPR s 1000000) some none=_
 unfold T29 lexS
 simp only [qal,qac,mt]
 by_cases h:60000<s.length
 ·rw [if_pos (by omega),if_pos h]
 ·rw [if_neg (by omega),if_neg h]
  exact lexP_go s (by omega) (s.length+1) 0 1000000 [] (by omega) (by omega) (by omega) (by simp)
def sgT (l:List Tok) (a:Nat):List UInt8:=if (tkD l a).1=4 then (tkD l a).2.1 else []
theorem sgT_is {l:List Tok} {a:Nat} {w:List UInt8} (hw:w≠[]):(sgT l a == w)=isS l a w:=by
 unfold sgT isS
 by_cases h:(tkD l a).1=4
 ·rw [if_pos h,decide_eq_true h,Bool.true_and]
 ·rw [if_neg h,decide_eq_false h,Bool.false_and]
  simpa using hw
theorem sgT_op (l:List Tok) (a:Nat):sgW (sgT l a)=sgE l a:=by
 unfold sgT sgE
 split<;>rfl
theorem qbn {l:List Tok} {a:Nat} (ha:a<l.length) (out:List Trm):M98 l a out=some (sgT l a,l,(a:Int),out):=by
 show T98 Ops.std l a out some=_
 unfold T98 sgT
 simp only [qan,qap,qac,qag]
 rw [if_pos (by omega)]
 split<;>rfl
theorem op_chain (w:List UInt8):M97 w=cond (([42]:List UInt8) == w) (some (6,4)) (cond (([43]:List UInt8) == w) (some (7,3)) (cond (([45]:List UInt8) == w) (some (8,3)) (cond (([60]:List UInt8) == w) (some (9,2)) (cond (([60,61]:List UInt8) == w) (some (10,2)) (cond (([62]:List UInt8) == w) (some (11,2)) (cond (([62,61]:List UInt8) == w) (some (12,2)) (cond (([61,61]:List UInt8) == w) (some (13,2)) (cond (([33,61]:List UInt8) == w) (some (14,2)) (cond (([38,38]:List UInt8) == w) (some (15,1)) (cond (([124,124]:List UInt8) == w) (some (16,0)) (some (0,-1)))))))))))):=by kernel_rfl
theorem beq_ite {α:Type} (x w:List UInt8) (a b:α):cond (x == w) a b=if w=x then a else b:=by
 by_cases h:w=x
 ·rw [if_pos h,h];simp
 ·rw [if_neg h]
  have:(x == w)=false:=by simpa using fun h2=>h h2.symm
  rw [this];rfl
theorem op_prog (w:List UInt8):M97 w=some ((sgW w).1,((sgW w).2:Int)-1):=by
 rw [op_chain]
 simp only [beq_ite]
 have key:∀ f:Int×Nat→Option (Int×Int),f (sgW w)=if w=[42] then f (6,5) else if w=[43] then f (7,4) else if w=[45] then f (8,4) else if w=[60] then f (9,3) else if w=[60,61] then f (10,3) else if w=[62] then f (11,3) else if w=[62,61] then f (12,3) else if w=[61,61] then f (13,3) else if w=[33,61] then f (14,3) else if w=[38,38] then f (15,2) else if w=[124,124] then f (16,1) else f (0,0):=fun f=>by
  unfold sgW
  simp only [apply_ite f]
 exact (key fun p=>some (p.1,(p.2:Int)-1)).symm
theorem qck (l:List Int):M123 l=some l:=rfl
def RsP (l:List Tok) (out:List Trm) (r:PR) (o:Option (Bool×List Tok×Int×List Trm)):Prop:=match r with
 | .ok b e=>o=some (true,l,(b:Int),out++e)
 | .bad k=>∃ out',o=some (false,l,(k:Int),out')
noncomputable abbrev bnR (d:Nat):=R63 (Rec63 d).2.1 (Rec63 d).1 M98 M97
noncomputable abbrev uaR (d:Nat):=R96 M98 (Rec63 d).2.2 M123
abbrev BnOK (l:List Tok) (d:Nat):Prop:=∀ (n a:Nat) (out:List Trm),1≤n→n≤6→16*(l.length-a)+2*(7-n)<d→a<l.length→out.length+(l.length-a)<200000→∃ r,PE l (.lv n a) r∧RsP l out r ((Rec63 d).1 ((n:Int)-1) l a out)
abbrev UaOK (l:List Tok) (d:Nat):Prop:=∀ (a:Nat) (out:List Trm),16*(l.length-a)<d→a<l.length→out.length+(l.length-a)<200000→∃ r,PE l (.un a) r∧RsP l out r ((Rec63 d).2.1 l a out)
abbrev AtOK (l:List Tok) (d:Nat):Prop:=∀ (a:Nat) (out:List Trm),16*(l.length-a)<d+3→a<l.length→out.length+(l.length-a)<200000→¬ isS l a [33]=true→¬ isS l a [45]=true→∃ r,PE l (.un a) r∧RsP l out r ((Rec63 d).2.2 l a out)
section
variable {l:List Tok}
theorem wordE_prog (hl:toksOK l) (hll:l.length<100000) {a:Nat} (ha:a<l.length) (hk:(tkD l a).1=2) (out:List Trm) (ho:out.length+(l.length-a)<200000):∃ r,PE l (.un a) r∧RsP l out r (M135 l a out):=by
 have h1:=qaw hl ha (Ty.dflt ty85) (by rw [show (l.getD a (Ty.dflt ty85)).1=2 from hk];decide)
 have hM:M135 l a out=T135 Ops.std M98 l a out some:=rfl
 rw [hM]
 unfold T135
 have hw1:IntKind.wrap IntKind.i64 ((a:Int)+1)=((a+1:Nat):Int):=qai (by omega)
 simp only [qan,qap,qax,qac,qa6,qag,mt,List.length_cons,List.length_nil,hw1]
 rw [if_pos (by omega),qbn h1,ob_s]
 dsimp only
 rw [sgT_is (by decide)]
 have hpe:=pe_word hk
 cases hs:isS l (a+1) [64] with
 | false=>
   rw [if_neg (by rw [hs];decide)] at hpe
   simp only [Bool.not_false,cond_true]
   rw [if_pos (by omega)]
   exact ⟨_,hpe,rfl⟩
 | true=>
   rw [if_pos hs] at hpe
   have h2:=qaw hl h1 (Ty.dflt ty85) (by rw [show (l.getD (a+1) (Ty.dflt ty85)).1=4 from qc2 hs];decide)
   have hw2:IntKind.wrap IntKind.i64 (((a+1:Nat):Int)+1)=((a+2:Nat):Int):=qai (by omega)
   have hw3:IntKind.wrap IntKind.i64 (((a+2:Nat):Int)+1)=((a+3:Nat):Int):=qai (by omega)
   simp only [Bool.not_true,cond_false,hw2,hw3,qag]
   have hin:(0:Int)≤((a+2:Nat):Int)∧((a+2:Nat):Int)<(l.length:Int):=by omega
   simp only [if_pos hin]
   by_cases h3:(l.getD (a+2) (Ty.dflt ty85)).1=2
   ·rw [if_pos h3] at hpe
    rw [if_neg (fun h=>h h3),if_pos (by omega)]
    exact ⟨_,hpe,rfl⟩
   ·rw [if_neg h3] at hpe
    rw [if_pos h3]
    exact ⟨_,hpe,_,rfl⟩
theorem atom_step (hl:toksOK l) (hll:l.length<100000) (d:Nat) (hb:BnOK l d):AtOK l (d+1):=fun a out hd ha ho n1 n2=>by
 show ∃ r,PE l (.un a) r∧RsP l out r (T122 Ops.std M135 M98 (Rec63 d).1 l a out some)
 unfold T122
 have hw1:IntKind.wrap IntKind.i64 ((a:Int)+1)=((a+1:Nat):Int):=qai (by omega)
 simp only [qan,qap,qax,qac,qa6,qag,mt,List.length_cons,List.length_nil,hw1]
 rw [if_pos (by omega)]
 by_cases k1:(l.getD a (Ty.dflt ty85)).1=1
 ·rw [if_pos k1,if_pos (by omega)]
  exact ⟨_,pe_num k1,rfl⟩
 ·rw [if_neg k1]
  by_cases k2:(l.getD a (Ty.dflt ty85)).1=2
  ·rw [if_pos k2]
   obtain ⟨r,h1,h2⟩:=wordE_prog hl hll ha k2 out ho
   refine ⟨r,h1,?_⟩
   cases r with
   | ok b e=>
     have h2:M135 l a out=some (true,l,(b:Int),out++e):=h2
     rw [h2,ob_s]
     exact rfl
   | bad k=>
     obtain ⟨out',h2⟩:=h2
     rw [h2,ob_s]
     exact ⟨_,rfl⟩
  ·rw [if_neg k2,qbn ha,ob_s]
   dsimp only
   rw [sgT_is (by decide)]
   cases hs:isS l a [40] with
   | false=>
     simp only [Bool.not_false,cond_true]
     exact ⟨_,pe_none n1 n2 k1 k2 (by rw [hs];decide),_,rfl⟩
   | true=>
     simp only [Bool.not_true,cond_false,hw1]
     have h1:=qaw hl ha (Ty.dflt ty85) (by rw [qc2 hs];decide)
     obtain ⟨r,g1,g2⟩:=hb 1 (a+1) out (by omega) (by omega) (by omega) h1 (by omega)
     have e0:((1:Nat):Int)-1=0:=rfl
     rw [e0] at g2
     cases r with
     | bad k=>
       obtain ⟨out',g2⟩:=g2
       rw [g2,ob_s]
       exact ⟨_,pe_brab hs g1,_,rfl⟩
     | ok b e=>
       have g2:(Rec63 d).1 0 l ((a+1:Nat):Int) out=some (true,l,(b:Int),out++e):=g2
       have hbd:=g1.bd hl (Nat.le_refl 1) h1
       rw [g2,ob_s]
       dsimp only
       simp only [Bool.not_true,cond_false]
       rw [qbn hbd.2.1,ob_s]
       dsimp only
       rw [sgT_is (by decide)]
       refine ⟨_,pe_bra hs g1,?_⟩
       cases hs2:isS l b [41] with
       | false=>exact ⟨_,rfl⟩
       | true=>
         have:IntKind.wrap IntKind.i64 ((b:Int)+1)=((b+1:Nat):Int):=qai (by have:=hbd.2.1;omega)
         rw [this]
         exact rfl
theorem qeg (hll:l.length<100000) (d:Nat) (p0:List Tok) (p1:Int) (p2:List Trm) (b:Nat):∀ (ops:List Int) (m:Nat) (rest:List Int) (out:List Trm),ops.length<m→out.length+ops.length<1000000→
  uaR d p0 p1 p2 m (.l1012 ((ops.length:Nat)-1) l b out (ops.reverse++rest))=some (true,l,(b:Int),out++ops.map fun n=>(n,0,[],[]))
 | ops,0,rest,out,hm,ho=>by omega
 | [],m+1,rest,out,hm,ho=>by
  show T96 Ops.std _ _ _ p0 p1 p2 _ some _=_
  unfold T96
  simp only [qal,qac]
  rw [if_pos (by simp)]
  simp
 | x::ops,m+1,rest,out,hm,ho=>by
   have ih:=qeg hll d p0 p1 p2 b ops m (x::rest) (out++[(x,0,[],[])]) (by simpa using hm) (by simp at ho ⊢;omega)
   show T96 Ops.std _ _ _ p0 p1 p2 _ some _=_
   unfold T96
   simp only [qal,qax,qac,mt]
   have hi:(((x::ops).length:Nat):Int)-1=(ops.length:Nat):=by simp
   rw [hi,if_neg (by omega),if_pos (by simp;omega),qag]
   have hg:((x::ops).reverse++rest).getD ops.length 0=x:=by
    rw [List.reverse_cons,List.append_assoc]
    have:=qa7 ops.reverse x rest 0
    rw [List.length_reverse] at this
    exact this
   rw [hg,if_pos (by simp only [List.length_cons,List.length_nil];simp at ho;omega)]
   rw [List.reverse_cons,List.append_assoc]
   rw [List.map_cons]
   have e:out++((x,0,[],[])::ops.map fun n=>((n,0,[],[]):Trm))=out++[(x,0,[],[])]++ops.map fun n=>(n,0,[],[]):=by simp
   rw [e]
   exact ih
theorem qc4 (hl:toksOK l) (hll:l.length<100000) (d:Nat) (hat:AtOK l d) (p0:List Tok) (p1:Int) (p2:List Trm):∀ (t a m:Nat) (ops:List Int) (out:List Trm),l.length-a≤t→200000+t<m→16*(l.length-a)<d+3→a<l.length→ops.length+out.length+(l.length-a)<200000→
  ∃ r,PE l (.un a) r∧(match r with
    | .ok b e=>uaR d p0 p1 p2 m (.l0 l a ops out)=some (true,l,(b:Int),out++e++ops.reverse.map fun n=>(n,0,[],[]))
    | .bad k=>∃ out',uaR d p0 p1 p2 m (.l0 l a ops out)=some (false,l,(k:Int),out'))
 | t,a,0,ops,out,ht,hm,hd,ha,ho=>by omega
 | 0,a,m+1,ops,out,ht,hm,hd,ha,ho=>by omega
 | t+1,a,m+1,ops,out,ht,hm,hd,ha,ho=>by
   have hU:uaR d p0 p1 p2 (m+1) (.l0 l a ops out)=T96 Ops.std M98 (Rec63 d).2.2 M123 p0 p1 p2 (uaR d p0 p1 p2 m) some (some (.l0 l a ops out)):=rfl
   rw [hU]
   unfold T96
   have hw1:IntKind.wrap IntKind.i64 ((a:Int)+1)=((a+1:Nat):Int):=qai (by omega)
   simp only [qan,qap,qax,qal,qac,qa6,qag,mt,List.length_cons,List.length_nil,qbn ha,ob_s,hw1,sgT_is (l:=l) (a:=a) (w:=[33]) (by decide),sgT_is (l:=l) (a:=a) (w:=[45]) (by decide)]
   cases hs1:isS l a [33] with
   | true=>
     simp only [cond_true]
     rw [if_pos (by omega)]
     have h1:=qaw hl ha (Ty.dflt ty85) (by rw [qc2 hs1];decide)
     obtain ⟨r,g1,g2⟩:=qc4 hl hll d hat p0 p1 p2 t (a+1) m (ops++[4]) out (by omega) (by omega) (by omega) h1 (by simp;omega)
     cases r with
     | ok b e=>
       refine ⟨_,pe_not hs1 g1,g2.trans ?_⟩
       simp
     | bad k=>exact ⟨_,pe_notb hs1 g1,g2⟩
   | false=>
     simp only [cond_false]
     cases hs2:isS l a [45] with
     | true=>
       simp only [cond_true]
       rw [if_pos (by omega)]
       have h1:=qaw hl ha (Ty.dflt ty85) (by rw [qc2 hs2];decide)
       obtain ⟨r,g1,g2⟩:=qc4 hl hll d hat p0 p1 p2 t (a+1) m (ops++[5]) out (by omega) (by omega) (by omega) h1 (by simp;omega)
       cases r with
       | ok b e=>
         refine ⟨_,pe_neg hs2 g1,g2.trans ?_⟩
         simp
       | bad k=>exact ⟨_,pe_negb hs2 g1,g2⟩
     | false=>
       simp only [cond_false]
       obtain ⟨r,g1,g2⟩:=hat a out hd ha (by omega) (by rw [hs1];decide) (by rw [hs2];decide)
       refine ⟨r,g1,?_⟩
       cases r with
       | bad k=>
         obtain ⟨out',g2⟩:=g2
         rw [g2,ob_s]
         exact ⟨_,rfl⟩
       | ok b e=>
         have g2:(Rec63 d).2.2 l (a:Int) out=some (true,l,(b:Int),out++e):=g2
         have hbd:=g1.bd hl (by show 1≤6;omega) ha
         have hb1:a<b:=hbd.1
         have hb3:e.length≤b-a:=hbd.2.2.1
         have hb2:b<l.length:=hbd.2.1
         rw [g2,ob_s]
         dsimp only
         simp only [Bool.not_true,cond_false,qck,ob_s]
         have:=qeg hll d p0 p1 p2 b ops.reverse m [] (out++e) (by simp;omega) (by simp;omega)
         simp only [List.reverse_reverse,List.append_nil,List.length_reverse] at this
         exact this
theorem qbx (hl:toksOK l) (hll:l.length<100000) (d n:Nat) (h1:1≤n) (h6:n≤5) (p1:List Tok) (p2:Int) (p3:List Trm) (hb:∀ (a:Nat) (out:List Trm),16*(l.length-a)+2*(6-n)<d→a<l.length→out.length+(l.length-a)<200000→∃ r,PE l (.lv (n+1) a) r∧RsP l out r ((Rec63 d).1 (n:Int) l a out)):∀ (t b m:Nat) (out e:List Trm),l.length-b≤t→t<m→16*(l.length-b)+2*(6-n)<d→b<l.length→out.length+e.length+(l.length-b)<200000→
  ∃ r,PE l (.lp n b e) r∧RsP l out r (bnR d ((n:Int)-1) p1 p2 p3 m (.l0 l b (out++e)))
 | t,b,0,out,e,ht,hm,hd,hbl,ho=>by omega
 | 0,b,m+1,out,e,ht,hm,hd,hbl,ho=>by omega
 | t+1,b,m+1,out,e,ht,hm,hd,hbl,ho=>by
   have hU:bnR d ((n:Int)-1) p1 p2 p3 (m+1) (.l0 l b (out++e))=T63 Ops.std (Rec63 d).2.1 (Rec63 d).1 M98 M97 ((n:Int)-1) p1 p2 p3 (bnR d ((n:Int)-1) p1 p2 p3 m) some (some (.l0 l b (out++e))):=rfl
   rw [hU]
   unfold T63
   have hw1:IntKind.wrap IntKind.i64 ((b:Int)+1)=((b+1:Nat):Int):=qai (by omega)
   have hwn:IntKind.wrap IntKind.i64 ((n:Int)-1+1)=(n:Int):=by rw [wrap64 (by omega) (by omega)];omega
   simp only [qan,qap,qax,qal,qac,qa6,qag,mt,List.length_cons,List.length_nil,qbn hbl,ob_s,hw1,hwn,op_prog,sgT_op]
   by_cases hs:(sgE l b).2=n
   ·have ho3:=sgE_op hs h1
    rw [if_neg (by omega)]
    have hb1:=qaw hl hbl (Ty.dflt ty85) (by rw [show (l.getD b (Ty.dflt ty85)).1=4 from ho3.2.2];decide)
    obtain ⟨r,g1,g2⟩:=hb (b+1) (out++e) (by omega) hb1 (by simp;omega)
    cases r with
    | bad k=>
      obtain ⟨out',g2⟩:=g2
      rw [g2,ob_s]
      exact ⟨_,pe_lpbad hs g1,_,rfl⟩
    | ok c e2=>
      have g2:(Rec63 d).1 (n:Int) l ((b+1:Nat):Int) (out++e)=some (true,l,(c:Int),out++e++e2):=g2
      have hbd:=g1.bd hl (by show 1≤n+1;omega) hb1
      have hc1:b+1<c:=hbd.1
      have hc2:c<l.length:=hbd.2.1
      have hc3:e2.length≤c-(b+1):=hbd.2.2.1
      rw [g2,ob_s]
      dsimp only
      simp only [Bool.not_true,cond_false]
      rw [if_pos (by simp only [List.length_append];omega)]
      by_cases h3:n=3
      ·subst h3
       rw [if_pos (by decide)]
       refine ⟨_,pe_three hs g1,?_⟩
       show some _=some _
       simp
      ·rw [if_neg (by omega)]
       obtain ⟨r,j1,j2⟩:=qbx hl hll d n h1 h6 p1 p2 p3 hb t c m out (e++e2++[((sgE l b).1,0,[],[])]) (by omega) (by omega) (by omega) hc2 (by simp;omega)
       refine ⟨r,pe_more h3 hs g1 j1,?_⟩
       have ea:out++(e++e2++[((sgE l b).1,0,[],[])])=out++e++e2++[((sgE l b).1,0,[],[])]:=by simp
       rw [ea] at j2
       exact j2
   ·rw [if_pos (by omega)]
    exact ⟨_,pe_stop hs,rfl⟩
theorem parser_ok (hl:toksOK l) (hll:l.length<100000):∀ d,BnOK l d∧UaOK l d∧AtOK l d
 | 0=>⟨fun n a out _ _ h _ _=>(by omega),fun a out h _ _=>(by omega),fun a out h ha _ _ _=>(by omega)⟩
 | d+1=>by
   obtain ⟨hb,hu,hat⟩:=parser_ok hl hll d
   refine ⟨fun n a out h1 h6 hd ha ho=>?_,fun a out hd ha ho=>?_,atom_step hl hll d hb⟩
   ·show ∃ r,PE l (.lv n a) r∧RsP l out r (T63 Ops.std (Rec63 d).2.1 (Rec63 d).1 M98 M97 ((n:Int)-1) l a out (bnR d ((n:Int)-1) l a out 1000000) some none)
    unfold T63
    have hwn:IntKind.wrap IntKind.i64 ((n:Int)-1+1)=(n:Int):=by rw [wrap64 (by omega) (by omega)];omega
    simp only [qap,qac,hwn]
    by_cases hn:n=6
    ·subst hn
     rw [if_pos (by decide)]
     obtain ⟨r,g1,g2⟩:=hu a out (by omega) ha ho
     refine ⟨r,pe_six g1,?_⟩
     cases r with
     | bad k=>
       obtain ⟨out',g2⟩:=g2
       rw [g2,ob_s]
       exact ⟨_,rfl⟩
     | ok b e=>
       have g2:(Rec63 d).2.1 l (a:Int) out=some (true,l,(b:Int),out++e):=g2
       rw [g2,ob_s]
       exact rfl
    ·rw [if_neg (by omega)]
     have hsub:∀ (a:Nat) (out:List Trm),16*(l.length-a)+2*(6-n)<d→a<l.length→out.length+(l.length-a)<200000→∃ r,PE l (.lv (n+1) a) r∧RsP l out r ((Rec63 d).1 (n:Int) l a out):=fun a out h2 h3 h4=>by
      have:=hb (n+1) a out (by omega) (by omega) (by omega) h3 h4
      have e:((n+1:Nat):Int)-1=(n:Int):=by omega
      rw [e] at this
      exact this
     obtain ⟨r,g1,g2⟩:=hsub a out (by omega) ha ho
     cases r with
     | bad k=>
       obtain ⟨out',g2⟩:=g2
       rw [g2,ob_s]
       exact ⟨_,pe_bad hn g1,_,rfl⟩
     | ok b e=>
       have g2:(Rec63 d).1 (n:Int) l (a:Int) out=some (true,l,(b:Int),out++e):=g2
       have hbd:=g1.bd hl (by show 1≤n+1;omega) ha
       have hc1:a<b:=hbd.1
       have hc2:b<l.length:=hbd.2.1
       have hc3:e.length≤b-a:=hbd.2.2.1
       rw [g2,ob_s]
       obtain ⟨r,j1,j2⟩:=qbx hl hll d n h1 (by omega) l a out hsub (l.length-b) b 1000000 out e (by omega) (by omega) (by omega) hc2 (by omega)
       exact ⟨r,pe_lv hn g1 j1,j2⟩
   ·show ∃ r,PE l (.un a) r∧RsP l out r (T96 Ops.std M98 (Rec63 d).2.2 M123 l a out (uaR d l a out 1000000) some none)
    unfold T96
    obtain ⟨r,g1,g2⟩:=qc4 hl hll d hat l a out (l.length-a) a 1000000 [] out (by omega) (by omega) (by omega) ha (by simp;omega)
    refine ⟨r,g1,?_⟩
    cases r with
    | bad k=>exact g2
    | ok b e=>
      refine g2.trans ?_
      simp
def takeR (a:Nat):PR→Int×Int×List Trm
 | .ok b e=>if 30<e.length then ((a:Int),13,[]) else ((b:Int),0,e)
 | .bad k=>((k:Int),2,[])
theorem ended_prog (hl:toksOK l) (hll:l.length<100000) {a:Nat} (ha:a<l.length):M62 l a=some true:=by
 show T62 Ops.std l a some=_
 unfold T62
 have hw:IntKind.wrap IntKind.i64 (((l.length:Nat):Int)-1)=((l.length-1:Nat):Int):=by rw [wrap64 (by omega) (by omega)];omega
 simp only [qan,qap,qbd,qal,qac,hw,qag]
 rw [if_pos (by omega),if_pos (by omega),if_pos (by omega)]
 rcases (qdx hl (i:=l.length-1) (by omega) (Ty.dflt ty85)).1 with h | h
 ·omega
 ·rw [h];rfl
theorem take_prog (hl:toksOK l) (hll:l.length≤60001) {a:Nat} (ha:a<l.length):∃ r,PE l (.lv 1 a) r∧M25 l a=some (takeR a r):=by
 obtain ⟨r,g1,g2⟩:=(parser_ok hl (by omega) 1000000).1 1 a [] (by omega) (by omega) (by omega) ha (by simp;omega)
 refine ⟨r,g1,?_⟩
 show T25 Ops.std M62 M63 l a some=_
 unfold T25
 simp only [qal,qac,ended_prog hl (by omega:l.length<100000) ha,ob_s,Bool.not_true,cond_false,mt]
 cases r with
 | bad k=>
   obtain ⟨out',g2⟩:=g2
   have g2:M63 0 l (a:Int) []=some (false,l,(k:Int),out'):=g2
   rw [g2,ob_s]
   exact rfl
 | ok b e=>
   have g2:M63 0 l (a:Int) []=some (true,l,(b:Int),[]++e):=g2
   rw [g2,ob_s]
   simp only [List.nil_append,Bool.not_true,cond_false,takeR]
   by_cases h:30<e.length
   ·rw [if_pos (by omega),if_pos h]
   ·rw [if_neg (by omega),if_neg h]
end
section
variable {l:List Tok} (hl:toksOK l)
end
section
variable {f:List Prt} {Run:Nat→Nat→List (List Int)→List Int→Option (List (List Int))} {E:List Trm→Bool}
def KStep (f:List Prt) (Run:Nat→Nat→List (List Int)→List Int→Option (List (List Int))):Prop:=
 ∀ (n i:Nat) (out:List (List Int)) (st:List Int) (a:Nat),i<f.length→f.length≤60→opn (f.getD i (Ty.dflt ty78)).1=(a:Int)→a≤st.length→st.length≤i→out.length≤i→
   Run (n+1) i out st=Run n (i+1) (out++[st.drop (st.length-a)]) (st.take (st.length-a)++[(i:Int)])
theorem kids_tree (hstep:KStep f Run) (h60:f.length≤60) (t:Fm Trm) (ht:t.wf E):∀ (pre post:List Prt),f=pre++t.flat++post→∀ (n:Nat) (out:List (List Int)) (st:List Int),st.length≤pre.length→out.length≤pre.length→
  Run (n+t.size) pre.length out st=Run n (pre.length+t.size) (out++t.kids pre.length) (st++[((pre.length+t.size-1:Nat):Int)]):=by
 induction t with
 | nul p=>
   intro pre post hf n out st hs ho
   have hlen:f.length=pre.length+(1+post.length):=by rw [hf];simp [Fm.flat];omega
   have hg:f.getD pre.length (Ty.dflt ty78)=p:=by
    rw [hf,show pre++(Fm.nul p).flat++post=pre++p::post by simp [Fm.flat]];exact qa7 _ _ _ _
   have:=hstep n pre.length out st 0 (by omega) h60 (by rw [hg];exact ht.1) (by omega) hs ho
   simp only [Fm.size,Fm.kids]
   rw [this]
   simp
 | un p a ih=>
   intro pre post hf n out st hs ho
   have hla:=a.flat_len
   have hlen:f.length=pre.length+(a.size+1+post.length):=by rw [hf];simp [Fm.flat,hla];omega
   have hsa:=a.size_pos
   have e:n+(Fm.un p a).size=(n+1)+a.size:=by simp only [Fm.size];omega
   rw [e,ih ht.2.2 pre ([p]++post) (by rw [hf];simp [Fm.flat]) (n+1) out st hs ho]
   have hg:f.getD (pre.length+a.size) (Ty.dflt ty78)=p:=by
    rw [hf,show pre++(Fm.un p a).flat++post=(pre++a.flat)++p::post by simp [Fm.flat],show pre.length+a.size=(pre++a.flat).length by simp [hla]];exact qa7 _ _ _ _
   have:=hstep n (pre.length+a.size) (out++a.kids pre.length) (st++[((pre.length+a.size-1:Nat):Int)]) 1 (by omega) h60 (by rw [hg];exact ht.1) (by simp) (by simp;omega) (by simp [a.kids_len];omega)
   rw [this]
   simp [Fm.size,Fm.kids]
   rfl
 | bi p a c iha ihc=>
   intro pre post hf n out st hs ho
   have hla:=a.flat_len
   have hlc:=c.flat_len
   have hlen:f.length=pre.length+(a.size+c.size+1+post.length):=by rw [hf];simp [Fm.flat,hla,hlc];omega
   have hsa:=a.size_pos
   have hsc:=c.size_pos
   have e:n+(Fm.bi p a c).size=(n+1+c.size)+a.size:=by simp only [Fm.size];omega
   rw [e,iha ht.2.2.1 pre (c.flat++[p]++post) (by rw [hf];simp [Fm.flat]) (n+1+c.size) out st hs ho]
   have e2:=ihc ht.2.2.2 (pre++a.flat) ([p]++post) (by rw [hf];simp [Fm.flat]) (n+1) (out++a.kids pre.length) (st++[((pre.length+a.size-1:Nat):Int)]) (by simp [hla];omega) (by simp [a.kids_len,hla];omega)
   rw [show (pre++a.flat).length=pre.length+a.size by simp [hla]] at e2
   rw [e2]
   have hg:f.getD (pre.length+a.size+c.size) (Ty.dflt ty78)=p:=by
    rw [hf,show pre++(Fm.bi p a c).flat++post=(pre++a.flat++c.flat)++p::post by simp [Fm.flat],show pre.length+a.size+c.size=(pre++a.flat++c.flat).length by simp [hla,hlc];omega];exact qa7 _ _ _ _
   have:=hstep n (pre.length+a.size+c.size) (out++a.kids pre.length++c.kids (pre.length+a.size)) (st++[((pre.length+a.size-1:Nat):Int)]++[((pre.length+a.size+c.size-1:Nat):Int)]) 2 (by omega) h60 (by rw [hg];exact ht.1) (by simp) (by simp;omega) (by simp [a.kids_len,c.kids_len];omega)
   rw [this]
   have e3:(st++[((pre.length+a.size-1:Nat):Int)]++[((pre.length+a.size+c.size-1:Nat):Int)]).length-2=st.length:=by simp
   rw [e3,List.append_assoc st,List.take_left' rfl,List.drop_left' rfl]
   simp only [Fm.size,Fm.kids,List.append_assoc,List.cons_append,List.nil_append]
   rw [show pre.length+(a.size+c.size+1)-1=pre.length+a.size+c.size by omega,show pre.length+(a.size+c.size+1)=pre.length+a.size+c.size+1 by omega]
theorem kids_all (hstep:KStep f Run) (hend:∀ n out st,Run (n+1) f.length out st=some out) {t:Fm Trm} (ht:t.wf E) (hf:f=t.flat) (h60:t.size≤60) (n:Nat):Run (n+1+t.size) 0 [] []=some (t.kids 0):=by
 have hl:f.length=t.size:=by rw [hf,t.flat_len]
 have:=kids_tree (E:=E) hstep (by omega) t ht [] [] (by simp [hf]) (n+1) [] [] (by simp) (by simp)
 simp only [List.length_nil,Nat.zero_add,List.nil_append] at this
 rw [this,←hl,hend]
end
theorem clone_ints (xs:List Int) (h:xs.length<900000):M83 xs=some xs:=by
 unfold M83 cloneF fits
 rw [qac,if_pos (by omega)]
theorem qd2 (f:List Prt):KStep f (fun n i out st=>R41 M48 M82 M83 f n (.l0 (f.length:Nat) i out st)):=by
 intro n i out st a hi h60 ha hst hsi hoi
 show T41 Ops.std _ _ _ f _ some _=_
 unfold T41
 simp only [qal,qan,qax,qac,qag]
 have hw:IntKind.wrap IntKind.i64 (((st.length:Nat):Int)-(a:Int))=((st.length-a:Nat):Int):=by rw [wrap64 (by omega) (by omega)];omega
 have hw2:IntKind.wrap IntKind.i64 ((i:Int)+1)=((i+1:Nat):Int):=qai (by omega)
 rw [if_pos (by omega),if_pos (by omega),opn_prog,ob_s,ha]
 simp only [hw,hw2,qag,List.take_length,mt,List.length_cons,List.length_nil]
 rw [if_pos (by omega),clone_ints _ (by simp;omega),ob_s,if_pos (by omega),if_pos (by omega),if_pos (by simp;omega)]
theorem prog_kids_end (f:List Prt) (n:Nat) (out:List (List Int)) (st:List Int):R41 M48 M82 M83 f (n+1) (.l0 (f.length:Nat) (f.length:Nat) out st)=some out:=by
 show T41 Ops.std _ _ _ f _ some _=_
 unfold T41
 simp only [qal,qac]
 rw [if_neg (by omega)]
section
variable (E:List Trm→Bool)
theorem prog_kids_no (f:List Prt) (hr:M48 f=some false):M41 f=some []:=by
 show T41 Ops.std M48 M82 M83 f (R41 M48 M82 M83 f 1000000) some none=_
 unfold T41
 rw [hr,ob_s];rfl
theorem prog_kids_yes {t:Fm Trm} (ht:t.wf E) (h60:t.size≤60) (hr:M48 t.flat=some true):M41 t.flat=some (t.kids 0):=by
 show T41 Ops.std M48 M82 M83 t.flat (R41 M48 M82 M83 t.flat 1000000) some none=_
 unfold T41
 rw [hr,ob_s]
 have:=kids_all (E:=E) (qd2 t.flat) (prog_kids_end t.flat) ht rfl h60 (1000000-1-t.size)
 rw [show 1000000-1-t.size+1+t.size=1000000 by omega] at this
 exact this
end
structure At (f:List Prt) (K:List (List Int)) (t:Fm Trm) (b:Nat):Prop where
 parts:∃ pre post,f=pre++t.flat++post∧pre.length=b
 kids:∃ pre post,K=pre++t.kids b++post∧pre.length=b
section
variable {f:List Prt} {K:List (List Int)} {b:Nat}
theorem At.len {t:Fm Trm} (h:At f K t b):b+t.size≤f.length∧b+t.size≤K.length:=by
 obtain ⟨⟨pre,post,h1,h2⟩,⟨kp,kq,h3,h4⟩⟩:=h
 constructor
 ·rw [h1];simp only [List.length_append,t.flat_len,h2];omega
 ·rw [h3];simp only [List.length_append,t.kids_len,h4];omega
theorem At.un {p:Prt} {a:Fm Trm} (h:At f K (.un p a) b):At f K a b:=by
 obtain ⟨⟨pre,post,h1,h2⟩,⟨kp,kq,h3,h4⟩⟩:=h
 exact ⟨⟨pre,[p]++post,by rw [h1];simp [Fm.flat],h2⟩,⟨kp,[[((b+a.size-1:Nat):Int)]]++kq,by rw [h3];simp [Fm.kids],h4⟩⟩
end
theorem At.all (t:Fm Trm):At t.flat (t.kids 0) t 0:=⟨⟨[],[],by simp,rfl⟩,⟨[],[],by simp,rfl⟩⟩
section
variable (f:List Prt) (K:List (List Int)) (i:Int) (no:Bool) (out:List Prt) (d n:Nat)
end
section
variable {E:List Trm→Bool}
end
section
variable {E:List Trm→Bool}
end
def shortP (p:Prt):Prop:=p.2.length≤30∧∀ t∈p.2,t.2.2.1.length≤8∧t.2.2.2.length≤8
def goodF (e:List Prt):Prop:=(∀ (r:List Prt) (d:Int),0≤d→rGo rightE (e++r) d=rGo rightE r (d+1))∧∀ p∈e,shortP p
theorem shortP.nil (k:Int):shortP (k,[]):=⟨by simp,by simp⟩
theorem badP_of {p:Prt} {d:Int} (h1:0≤opn p.1) (h2:opn p.1≤d) (h3:p.1=3→rightE p.2=true) (h4:p.1≠3→p.2=[]):badP rightE p d=false:=by
 unfold badP
 by_cases h:p.1=3
 ·rw [h] at h1 h2
  simp [h,h3 h];omega
 ·simp [h,h4 h];omega
theorem goodF.nul {p:Prt} (ho:opn p.1=0) (h3:p.1=3→rightE p.2=true) (h4:p.1≠3→p.2=[]) (hs:shortP p):goodF [p]:=by
 refine ⟨fun r d hd=>?_,by simpa using hs⟩
 simp only [List.cons_append,List.nil_append,rGo,badP_of (by omega) (by omega:opn p.1≤d) h3 h4,ho]
 simp
theorem goodF.un {e:List Prt} {k:Int} (he:goodF e) (ho:opn k=1):goodF (e++[(k,[])]):=by
 refine ⟨fun r d hd=>?_,fun p hp=>?_⟩
 ·rw [List.append_assoc,he.1 _ d hd]
  have hk:k≠3:=ne3 ho (by omega)
  have hb:badP rightE ((k,[]):Prt) (d+1)=false:=badP_of (p:=(k,[])) (by show 0≤opn k;omega) (by show opn k≤d+1;omega) (fun h=>absurd h hk) (fun _=>rfl)
  simp only [List.cons_append,List.nil_append,rGo,hb,ho]
  simp
 ·rcases List.mem_append.1 hp with h | h
  ·exact he.2 p h
  ·simp at h;subst h;exact shortP.nil k
theorem goodF.bi {e e2:List Prt} {k:Int} (he:goodF e) (he2:goodF e2) (ho:opn k=2):goodF (e++e2++[(k,[])]):=by
 refine ⟨fun r d hd=>?_,fun p hp=>?_⟩
 ·rw [List.append_assoc,List.append_assoc,he.1 _ d hd,he2.1 _ (d+1) (by omega)]
  have hk:k≠3:=ne3 ho (by omega)
  have hb:badP rightE ((k,[]):Prt) (d+1+1)=false:=badP_of (p:=(k,[])) (by show 0≤opn k;omega) (by show opn k≤d+1+1;omega) (fun h=>absurd h hk) (fun _=>rfl)
  simp only [List.cons_append,List.nil_append,rGo,hb,ho]
  simp;congr 1;omega
 ·rcases List.mem_append.1 hp with h | h
  ·rcases List.mem_append.1 h with h | h
   ·exact he.2 p h
   ·exact he2.2 p h
  ·simp at h;subst h;exact shortP.nil k
theorem goodF.right {e:List Prt} (h:goodF e) (hl:e.length≤60):rightF rightE e=true:=by
 have:=h.1 [] 0 (by omega)
 rw [List.append_nil] at this
 unfold rightF
 rw [this]
 simp [rGo,hl]
theorem eGo_may:∀ (e:List Trm) (d n:Int),eGo e d=some n→∀ t∈e,mayT t=true
 | [],d,n,h,t,ht=>by simp at ht
 | p::r,d,n,h,t,ht=>by
   simp only [eGo] at h
   split at h
   ·cases h
   ·rename_i hc
    simp only [Bool.or_eq_true,Bool.not_eq_true',not_or,Bool.not_eq_false] at hc
    rcases List.mem_cons.1 ht with rfl | ht
    ·exact hc.1
    ·exact eGo_may r _ n h t ht
theorem word_len {w:List UInt8} (h:isWordP w=true):w.length≤8:=by
 cases w with
 | nil=>simp
 | cons b r=>
   simp only [isWordP,Bool.and_eq_true,decide_eq_true_eq] at h
   simpa using h.2
theorem may_len {t:Trm} (h:mayT t=true):t.2.2.1.length≤8∧t.2.2.2.length≤8:=by
 unfold mayT at h
 split at h
 ·simp only [Bool.and_eq_true,beq_iff_eq] at h
  rw [h.1.2,h.2];simp
 ·split at h
  ·simp only [Bool.and_eq_true,beq_iff_eq] at h
   rw [h.2];exact ⟨word_len h.1.2,by simp⟩
  ·split at h
   ·simp only [Bool.and_eq_true] at h
    exact ⟨word_len h.1.2,word_len h.2⟩
   ·simp only [Bool.and_eq_true,beq_iff_eq] at h
    rw [h.1.2,h.2];simp
theorem rightE_short {e:List Trm} (h:rightE e=true):e.length≤30∧∀ t∈e,t.2.2.1.length≤8∧t.2.2.2.length≤8:=by
 unfold rightE fin30 at h
 cases hg:eGo e 0 with
 | none=>rw [hg] at h;cases h
 | some d=>
   rw [hg] at h
   simp only [Bool.and_eq_true,decide_eq_true_eq] at h
   exact ⟨h.2,fun t ht=>may_len (eGo_may e 0 d hg t ht)⟩
def txF (l:List Tok) (a:Nat):List UInt8:=if (tkD l a).1≠1 then (tkD l a).2.1 else []
def impW (w:List UInt8):Int:=if w=[45,62] then 7 else 0
def untW (w:List UInt8):Int:=if w=[85] then 9 else if w=[82] then 10 else 0
def ahdW (w:List UInt8):Int:=if w=[33] then 4 else if w=[88] then 8 else if w=[70] then 11 else if w=[71] then 12 else 0
def sgF (n:Nat) (w:List UInt8):Int:=
 if n=1 then impW w else if n=2 then (if w=[124,124] then 6 else 0) else if n=3 then (if w=[38,38] then 5 else 0) else if n=4 then untW w else if n=5 then ahdW w else 0
inductive FSt where
 | lv (n a:Nat)
 | lp (n b:Nat) (e:List Prt)
inductive FRs where
 | ok (b:Nat) (e:List Prt)
 | bad (k:Nat) (c:Int)
def onF (r:Option FRs) (f:Nat→List Prt→Option FRs):Option FRs:=match r with
 | some (.ok b e)=>f b e
 | some (.bad k c)=>some (.bad k c)
 | none=>none
def exF (l:List Tok) (a:Nat):PR→FRs
 | .bad k=>.bad k 2
 | .ok b e=>if 30<e.length then .bad a 13 else if txF l b=[93] then .ok (b+1) [(3,e)] else .bad b 2
def goF (l:List Tok):Nat→FSt→Option FRs
 | 0,_=>none
 | d+1,.lv n a=>
   if n=1∨n=4 then onF (goF l d (.lv (n+1) a)) fun b e=>if sgF n (txF l b)=0 then some (.ok b e) else onF (goF l d (.lv n (b+1))) fun c e2=>some (.ok c (e++e2++[(sgF n (txF l b),[])]))
   else if n=2∨n=3 then onF (goF l d (.lv (n+1) a)) fun b e=>goF l d (.lp n b e)
   else if n=5 then if sgF 5 (txF l a)=0 then goF l d (.lv 6 a) else onF (goF l d (.lv 5 (a+1))) fun b e=>some (.ok b (e++[(sgF 5 (txF l a),[])]))
   else if txF l a=[116,114,117,101] then some (.ok (a+1) [(1,[])])
   else if txF l a=[102,97,108,115,101] then some (.ok (a+1) [(2,[])])
   else if txF l a=[91] then (go l d (.lv 1 (a+1))).map (exF l a)
   else if txF l a=[40] then onF (goF l d (.lv 1 (a+1))) fun b e=>if txF l b=[41] then some (.ok (b+1) e) else some (.bad b 2)
   else some (.bad a 2)
 | d+1,.lp n b e=>if sgF n (txF l b)=0 then some (.ok b e) else onF (goF l d (.lv (n+1) (b+1))) fun c e2=>goF l d (.lp n c (e++e2++[(sgF n (txF l b),[])]))
def PF (l:List Tok) (s:FSt) (r:FRs):Prop:=∃ d0,∀ d,d0≤d→goF l d s=some r
theorem PF.run {l:List Tok} {s:FSt} {r:FRs} (h:PF l s r):∃ d,goF l d s=some r:=by
 obtain ⟨d,h⟩:=h
 exact ⟨d,h d (Nat.le_refl _)⟩
section
variable {l:List Tok}
theorem pf1 {s:FSt} {r:FRs} (h:∀ d,goF l (d+1) s=some r):PF l s r:=⟨1,fun d hd=>by
 obtain ⟨g,rfl⟩:∃ g,d=g+1:=⟨d-1,by omega⟩
 exact h g⟩
theorem pf2 {s s1:FSt} {r r1:FRs} (h1:PF l s1 r1) (h:∀ d,goF l d s1=some r1→goF l (d+1) s=some r):PF l s r:=by
 obtain ⟨d0,h1⟩:=h1
 exact ⟨d0+1,fun d hd=>by
  obtain ⟨g,rfl⟩:∃ g,d=g+1:=⟨d-1,by omega⟩
  exact h g (h1 g (by omega))⟩
theorem pf3 {s s1 s2:FSt} {r r1 r2:FRs} (h1:PF l s1 r1) (h2:PF l s2 r2) (h:∀ d,goF l d s1=some r1→goF l d s2=some r2→goF l (d+1) s=some r):PF l s r:=by
 obtain ⟨d1,h1⟩:=h1
 obtain ⟨d2,h2⟩:=h2
 exact ⟨d1+d2+1,fun d hd=>by
  obtain ⟨g,rfl⟩:∃ g,d=g+1:=⟨d-1,by omega⟩
  exact h g (h1 g (by omega)) (h2 g (by omega))⟩
theorem pf_bad {n a k:Nat} {c:Int} (hn:n≤4) (h1:1≤n) (h:PF l (.lv (n+1) a) (.bad k c)):PF l (.lv n a) (.bad k c):=pf2 h fun d h=>by
 rw [goF]
 by_cases h14:n=1∨n=4
 ·rw [if_pos h14,h];rfl
 ·rw [if_neg h14,if_pos (by omega),h];rfl
theorem pf_r0 {n a b:Nat} {e:List Prt} (hn:n=1∨n=4) (h:PF l (.lv (n+1) a) (.ok b e)) (hs:sgF n (txF l b)=0):PF l (.lv n a) (.ok b e):=pf2 h fun d h=>by
 rw [goF,if_pos hn,h]
 show (if _ then _ else _)=_
 rw [if_pos hs]
theorem pf_rb {n a b k:Nat} {c:Int} {e:List Prt} (hn:n=1∨n=4) (h:PF l (.lv (n+1) a) (.ok b e)) (hs:sgF n (txF l b)≠0) (h2:PF l (.lv n (b+1)) (.bad k c)):PF l (.lv n a) (.bad k c):=pf3 h h2 fun d h h2=>by
 rw [goF,if_pos hn,h]
 show (if _ then _ else _)=_
 rw [if_neg hs,h2];rfl
theorem pf_r1 {n a b c:Nat} {e e2:List Prt} (hn:n=1∨n=4) (h:PF l (.lv (n+1) a) (.ok b e)) (hs:sgF n (txF l b)≠0) (h2:PF l (.lv n (b+1)) (.ok c e2)):PF l (.lv n a) (.ok c (e++e2++[(sgF n (txF l b),[])])):=pf3 h h2 fun d h h2=>by
 rw [goF,if_pos hn,h]
 show (if _ then _ else _)=_
 rw [if_neg hs,h2];rfl
theorem pf_l {n a b:Nat} {e:List Prt} {r:FRs} (hn:n=2∨n=3) (h:PF l (.lv (n+1) a) (.ok b e)) (h2:PF l (.lp n b e) r):PF l (.lv n a) r:=pf3 h h2 fun d h h2=>by
 rw [goF,if_neg (by omega),if_pos hn,h];exact h2
theorem pf_stop {n b:Nat} {e:List Prt} (h:sgF n (txF l b)=0):PF l (.lp n b e) (.ok b e):=pf1 fun d=>by rw [goF,if_pos h]
theorem pf_lpbad {n b k:Nat} {c:Int} {e:List Prt} (hs:sgF n (txF l b)≠0) (h:PF l (.lv (n+1) (b+1)) (.bad k c)):PF l (.lp n b e) (.bad k c):=pf2 h fun d h=>by rw [goF,if_neg hs,h];rfl
theorem pf_more {n b c:Nat} {e e2:List Prt} {r:FRs} (hs:sgF n (txF l b)≠0) (h:PF l (.lv (n+1) (b+1)) (.ok c e2)) (h2:PF l (.lp n c (e++e2++[(sgF n (txF l b),[])])) r):PF l (.lp n b e) r:=pf3 h h2 fun d h h2=>by
 rw [goF,if_neg hs,h];exact h2
theorem pf_p0 {a:Nat} {r:FRs} (hs:sgF 5 (txF l a)=0) (h:PF l (.lv 6 a) r):PF l (.lv 5 a) r:=pf2 h fun d h=>by
 rw [goF,if_neg (by decide),if_neg (by decide),if_pos rfl,if_pos hs,h]
theorem pf_p1 {a b:Nat} {e:List Prt} (hs:sgF 5 (txF l a)≠0) (h:PF l (.lv 5 (a+1)) (.ok b e)):PF l (.lv 5 a) (.ok b (e++[(sgF 5 (txF l a),[])])):=pf2 h fun d h=>by
 rw [goF,if_neg (by decide),if_neg (by decide),if_pos rfl,if_neg hs,h];rfl
theorem pf_pb {a k:Nat} {c:Int} (hs:sgF 5 (txF l a)≠0) (h:PF l (.lv 5 (a+1)) (.bad k c)):PF l (.lv 5 a) (.bad k c):=pf2 h fun d h=>by
 rw [goF,if_neg (by decide),if_neg (by decide),if_pos rfl,if_neg hs,h];rfl
theorem pf_true {a:Nat} (h:txF l a=[116,114,117,101]):PF l (.lv 6 a) (.ok (a+1) [(1,[])]):=pf1 fun d=>by
 rw [goF,if_neg (by decide),if_neg (by decide),if_neg (by decide),if_pos h]
theorem pf_false {a:Nat} (h:txF l a=[102,97,108,115,101]):PF l (.lv 6 a) (.ok (a+1) [(2,[])]):=pf1 fun d=>by
 rw [goF,if_neg (by decide),if_neg (by decide),if_neg (by decide),if_neg (by rw [h];decide),if_pos h]
theorem pf_ex {a:Nat} {r:PR} (h:txF l a=[91]) (h2:PE l (.lv 1 (a+1)) r):PF l (.lv 6 a) (exF l a r):=by
 obtain ⟨d0,h2⟩:=h2
 refine ⟨d0+1,fun d hd=>?_⟩
 obtain ⟨g,rfl⟩:∃ g,d=g+1:=⟨d-1,by omega⟩
 rw [goF,if_neg (by decide),if_neg (by decide),if_neg (by decide),if_neg (by rw [h];decide),if_neg (by rw [h];decide),if_pos h,h2 g (by omega)]
 rfl
theorem pf_brab {a k:Nat} {c:Int} (h:txF l a=[40]) (h2:PF l (.lv 1 (a+1)) (.bad k c)):PF l (.lv 6 a) (.bad k c):=pf2 h2 fun d h2=>by
 rw [goF,if_neg (by decide),if_neg (by decide),if_neg (by decide),if_neg (by rw [h];decide),if_neg (by rw [h];decide),if_neg (by rw [h];decide),if_pos h,h2];rfl
theorem pf_bra {a b:Nat} {e:List Prt} (h:txF l a=[40]) (h2:PF l (.lv 1 (a+1)) (.ok b e)):PF l (.lv 6 a) (if txF l b=[41] then .ok (b+1) e else .bad b 2):=pf2 h2 fun d h2=>by
 rw [goF,if_neg (by decide),if_neg (by decide),if_neg (by decide),if_neg (by rw [h];decide),if_neg (by rw [h];decide),if_neg (by rw [h];decide),if_pos h,h2]
 show (if _ then _ else _)=_
 split<;>rfl
theorem pf_none {a:Nat} (h1:txF l a≠[116,114,117,101]) (h2:txF l a≠[102,97,108,115,101]) (h3:txF l a≠[91]) (h4:txF l a≠[40]):PF l (.lv 6 a) (.bad a 2):=pf1 fun d=>by
 rw [goF,if_neg (by decide),if_neg (by decide),if_neg (by decide),if_neg h1,if_neg h2,if_neg h3,if_neg h4]
theorem sgF_nil (n:Nat):sgF n []=0:=by
 unfold sgF
 split
 ·rfl
 split
 ·rfl
 split
 ·rfl
 split
 ·rfl
 split
 ·rfl
 rfl
theorem impW_op {w:List UInt8} (h:impW w≠0):opn (impW w)=2:=by
 unfold impW at h ⊢
 split
 ·rfl
 ·rename_i hw;rw [if_neg hw] at h;exact absurd rfl h
theorem untW_op {w:List UInt8} (h:untW w≠0):opn (untW w)=2:=by
 unfold untW at h ⊢
 split
 ·rfl
 ·rename_i hw
  rw [if_neg hw] at h
  split
  ·rfl
  ·rename_i hw;rw [if_neg hw] at h;exact absurd rfl h
theorem ahdW_op {w:List UInt8} (h:ahdW w≠0):opn (ahdW w)=1:=by
 unfold ahdW at h ⊢
 split
 ·rfl
 ·rename_i hw
  rw [if_neg hw] at h
  split
  ·rfl
  ·rename_i hw
   rw [if_neg hw] at h
   split
   ·rfl
   ·rename_i hw
    rw [if_neg hw] at h
    split
    ·rfl
    ·rename_i hw;rw [if_neg hw] at h;exact absurd rfl h
theorem qcl {n:Nat} {w:List UInt8} (h:sgF n w≠0):(n≤4→opn (sgF n w)=2)∧(n=5→opn (sgF n w)=1)∧w≠[]:=by
 refine ⟨fun hn=>?_,fun hn=>?_,fun hw=>h (by rw [hw];exact sgF_nil n)⟩
 ·unfold sgF at h ⊢
  by_cases h1:n=1
  ·rw [if_pos h1] at h ⊢;exact impW_op h
  rw [if_neg h1] at h ⊢
  by_cases h2:n=2
  ·rw [if_pos h2] at h ⊢
   split
   ·rfl
   ·rename_i hw;rw [if_neg hw] at h;exact absurd rfl h
  rw [if_neg h2] at h ⊢
  by_cases h3:n=3
  ·rw [if_pos h3] at h ⊢
   split
   ·rfl
   ·rename_i hw;rw [if_neg hw] at h;exact absurd rfl h
  rw [if_neg h3] at h ⊢
  by_cases h4:n=4
  ·rw [if_pos h4] at h ⊢;exact untW_op h
  rw [if_neg h4,if_neg (by omega)] at h
  exact absurd rfl h
 ·subst hn
  exact ahdW_op h
theorem qa1 (hl:toksOK l) {a:Nat} (ha:a<l.length) (h:txF l a≠[]):a+1<l.length:=by
 by_cases h5:(tkD l a).1=5
 ·exfalso
  apply h
  have hlast:=(qdx hl ha (Ty.dflt ty85)).2.2 h5
  obtain ⟨q,x,rfl,_⟩:=hl
  simp at hlast
  subst hlast
  unfold txF
  rw [show tkD (q++[(5,[],0,x)]) q.length=(5,[],0,x) from qa7 q _ [] _]
  rfl
 ·exact qaw hl ha (Ty.dflt ty85) h5
def FSt.at:FSt→Nat
 | .lv _ a=>a
 | .lp _ b _=>b
def BdF (l:List Tok):FSt→FRs→Prop
 | .lp _ a e0,.ok b e=>a≤b∧b<l.length∧e.length≤e0.length+(b-a)∧(goodF e0→goodF e)
 | .lv _ a,.ok b e=>a<b∧b<l.length∧e.length≤b-a∧goodF e
 | s,.bad k c=>s.at≤k∧k<l.length∧(c=2∨c=13)
theorem qb8 {r:Option FRs} {f:Nat→List Prt→Option FRs} {q:FRs} (h:onF r f=some q):(∃ b e,r=some (.ok b e)∧f b e=some q)∨∃ k c,r=some (.bad k c)∧q=.bad k c:=by
 cases r with
 | none=>cases h
 | some x=>
   cases x with
   | ok b e=>exact .inl ⟨b,e,rfl,h⟩
   | bad k c=>exact .inr ⟨k,c,rfl,(Option.some.inj h).symm⟩
theorem qeh (hl:toksOK l):∀ (d:Nat) (s:FSt) (r:FRs),(∀ n a,s=.lv n a→1≤n∧n≤6)→(∀ n b e,s=.lp n b e→n=2∨n=3)→s.at<l.length→goF l d s=some r→BdF l s r
 | 0,s,r,_,_,_,h=>by cases h
 | d+1,.lv n a,r,h1,_,ha,h=>by
   have ha:a<l.length:=ha
   have hn:=h1 n a rfl
   have lvH:∀ {n a:Nat} {r:FRs},1≤n→n≤6→a<l.length→goF l d (.lv n a)=some r→BdF l (.lv n a) r:=fun h1 h2 h3 h4=>qeh hl d _ _ (fun _ _ e=>by cases e;exact ⟨h1,h2⟩) (fun _ _ _ e=>by cases e) h3 h4
   rw [goF] at h
   split at h
   ·rename_i h14
    rcases qb8 h with ⟨b,e,g1,g2⟩ | ⟨k,c,g1,rfl⟩
    ·obtain ⟨i1,i2,i3,i4⟩:=lvH (by omega) (by omega) ha g1
     split at g2
     ·cases g2;exact ⟨i1,i2,i3,i4⟩
     ·rename_i hs
      have hb1:=qa1 hl i2 (qcl hs).2.2
      rcases qb8 g2 with ⟨c,e2,j1,j2⟩ | ⟨k,c,j1,rfl⟩
      ·obtain ⟨k1,k2,k3,k4⟩:=lvH (by omega) (by omega) hb1 j1
       cases j2
       exact ⟨by omega,k2,by simp;omega,i4.bi k4 ((qcl hs).1 (by omega))⟩
      ·obtain ⟨k1,k2⟩:=lvH (by omega) (by omega) hb1 j1
       have k1:b+1≤k:=k1
       exact ⟨by show a≤k;omega,k2⟩
    ·have:=lvH (n:=n+1) (by omega) (by omega) ha g1
     exact this
   ·split at h
    ·rename_i h23
     rcases qb8 h with ⟨b,e,g1,g2⟩ | ⟨k,c,g1,rfl⟩
     ·obtain ⟨i1,i2,i3,i4⟩:=lvH (by omega) (by omega) ha g1
      have:=qeh hl d (.lp n b e) r (fun _ _ e=>by cases e) (fun _ _ _ e=>by cases e;exact h23) i2 g2
      cases r with
      | ok c e'=>
        obtain ⟨k1,k2,k3,k4⟩:=this
        exact ⟨by omega,k2,by omega,k4 i4⟩
      | bad k c=>
        obtain ⟨k1,k2⟩:=this
        have k1:b≤k:=k1
        exact ⟨by show a≤k;omega,k2⟩
     ·have:=lvH (n:=n+1) (by omega) (by omega) ha g1
      exact this
    ·split at h
     ·split at h
      ·have:=lvH (by omega) (by omega) ha h
       cases r<;>exact this
      ·rename_i hs
       have hb1:=qa1 hl ha (qcl hs).2.2
       rcases qb8 h with ⟨b,e,g1,g2⟩ | ⟨k,c,g1,rfl⟩
       ·obtain ⟨i1,i2,i3,i4⟩:=lvH (by omega) (by omega) hb1 g1
        cases g2
        exact ⟨by omega,i2,by simp;omega,i4.un ((qcl hs).2.1 rfl)⟩
       ·obtain ⟨k1,k2⟩:=lvH (by omega) (by omega) hb1 g1
        have k1:a+1≤k:=k1
        exact ⟨by show a≤k;omega,k2⟩
     ·split at h
      ·rename_i ht
       cases h
       exact ⟨by omega,qa1 hl ha (by rw [ht];decide),by simp,goodF.nul rfl (fun h=>(by cases h)) (fun _=>rfl) (shortP.nil 1)⟩
      ·split at h
       ·rename_i ht
        cases h
        exact ⟨by omega,qa1 hl ha (by rw [ht];decide),by simp,goodF.nul rfl (fun h=>(by cases h)) (fun _=>rfl) (shortP.nil 2)⟩
       ·split at h
        ·rename_i ht
         have hb1:=qa1 hl ha (by rw [ht];decide)
         cases hg:go l d (.lv 1 (a+1)) with
         | none=>rw [hg] at h;cases h
         | some q=>
           rw [hg] at h
           cases h
           have:=qc3 hl d (.lv 1 (a+1)) q (Nat.le_refl 1) hb1 hg
           cases q with
           | bad k=>
             obtain ⟨k1,k2⟩:=this
             have k1:a+1≤k:=k1
             exact ⟨by show a≤k;omega,k2,.inl rfl⟩
           | ok b e=>
             obtain ⟨k1,k2,k3,k4⟩:=this
             have k1:a+1<b:=k1
             have k3:e.length≤b-(a+1):=k3
             show BdF l (.lv n a) (if 30<e.length then .bad a 13 else if txF l b=[93] then .ok (b+1) [(3,e)] else .bad b 2)
             split
             ·exact ⟨by show a≤a;omega,ha,.inr rfl⟩
             ·split
              ·rename_i h30 hb
               have hr:=k4.right (by omega)
               exact ⟨by omega,qa1 hl k2 (by rw [hb];decide),by simp;omega,goodF.nul rfl (fun _=>hr) (fun h=>absurd rfl h) (rightE_short hr)⟩
              ·exact ⟨by show a≤b;omega,k2,.inl rfl⟩
        ·split at h
         ·rename_i ht
          have hb1:=qa1 hl ha (by rw [ht];decide)
          rcases qb8 h with ⟨b,e,g1,g2⟩ | ⟨k,c,g1,rfl⟩
          ·obtain ⟨i1,i2,i3,i4⟩:=lvH (by omega) (by omega) hb1 g1
           split at g2
           ·rename_i hb
            cases g2
            exact ⟨by omega,qa1 hl i2 (by rw [hb];decide),by omega,i4⟩
           ·cases g2
            exact ⟨by show a≤b;omega,i2,.inl rfl⟩
          ·obtain ⟨k1,k2⟩:=lvH (by omega) (by omega) hb1 g1
           have k1:a+1≤k:=k1
           exact ⟨by show a≤k;omega,k2⟩
         ·cases h
          exact ⟨Nat.le_refl a,ha,.inl rfl⟩
 | d+1,.lp n b e,r,_,h2,hb,h=>by
   have hb:b<l.length:=hb
   have hn:=h2 n b e rfl
   rw [goF] at h
   split at h
   ·cases h
    exact ⟨Nat.le_refl b,hb,by omega,id⟩
   ·rename_i hs
    have hb1:=qa1 hl hb (qcl hs).2.2
    rcases qb8 h with ⟨c,e2,g1,g2⟩ | ⟨k,c2,g1,rfl⟩
    ·obtain ⟨i1,i2,i3,i4⟩:=qeh hl d (.lv (n+1) (b+1)) _ (fun _ _ e=>by cases e;omega) (fun _ _ _ e=>by cases e) hb1 g1
     have:=qeh hl d (.lp n c _) r (fun _ _ e=>by cases e) (fun _ _ _ e=>by cases e;exact hn) i2 g2
     cases r with
     | ok c' e'=>
       obtain ⟨k1,k2,k3,k4⟩:=this
       simp only [List.length_append,List.length_cons,List.length_nil] at k3
       exact ⟨by omega,k2,by omega,fun hg=>k4 (hg.bi i4 ((qcl hs).1 (by omega)))⟩
     | bad k c3=>
       obtain ⟨k1,k2⟩:=this
       have k1:c≤k:=k1
       exact ⟨by show b≤k;omega,k2⟩
    ·obtain ⟨k1,k2⟩:=qeh hl d (.lv (n+1) (b+1)) _ (fun _ _ e=>by cases e;omega) (fun _ _ _ e=>by cases e) hb1 g1
     have k1:b+1≤k:=k1
     exact ⟨by show b≤k;omega,k2⟩
theorem PF.bd (hl:toksOK l) {n a:Nat} {r:FRs} (h:PF l (.lv n a) r) (h1:1≤n) (h6:n≤6) (ha:a<l.length):BdF l (.lv n a) r:=by
 obtain ⟨d,h⟩:=h.run
 exact qeh hl d _ r (fun _ _ e=>by cases e;exact ⟨h1,h6⟩) (fun _ _ _ e=>by cases e) ha h
end
theorem beqI {α:Type} (x w:List UInt8) (a b:α):cond (w == x) a b=if w=x then a else b:=by
 by_cases h:w=x
 ·rw [if_pos h,h];simp
 ·rw [if_neg h]
  have:(w == x)=false:=by simpa using h
  rw [this];rfl
theorem beqN {α:Type} (x w:List UInt8) (a b:α):cond (!(w == x)) a b=if w=x then b else a:=by
 by_cases h:w=x
 ·rw [if_pos h,h];simp
 ·rw [if_neg h]
  have:(w == x)=false:=by simpa using h
  rw [this];rfl
section
variable {l:List Tok}
theorem qa0 {a:Nat} (ha:a<l.length) (x:Int) (out:List Prt):M127 l a x out=some (txF l a,l,(a:Int),x,out):=by
 show T127 Ops.std l a x out some=_
 unfold T127 txF
 simp only [qan,qap,qa6,qac,qag,mt]
 rw [if_pos (by omega)]
 split<;>rfl
theorem qbe (op:Int) (a x:Int) (out:List Prt) (ho:out.length<300000):M128 op l a x out=some (true,l,a,x,out++[(op,[])]):=by
 show T128 Ops.std op l a x out some=_
 unfold T128
 simp only [qax,qac,mt,List.length_cons,List.length_nil]
 rw [if_pos (by omega)]
theorem qbf (c a x:Int) (out:List Prt):M151 c l a x out=some (false,l,a,c,out):=rfl
theorem impF_prog (w:List UInt8):M115 w=some (impW w):=by
 show T115 Ops.std w some=_
 unfold T115 impW
 simp only [beqI]
 split<;>rfl
theorem untF_prog (w:List UInt8):M143 w=some (untW w):=by
 show T143 Ops.std w some=_
 unfold T143 untW
 simp only [beqI]
 (repeat' split)<;>rfl
theorem ahdF_prog (w:List UInt8):M147 w=some (ahdW w):=by
 show T147 Ops.std w some=_
 unfold T147 ahdW
 simp only [beqI]
 (repeat' split)<;>rfl
def RsF (l:List Tok) (out:List Prt) (r:FRs) (o:Option (Bool×List Tok×Int×Int×List Prt)):Prop:=match r with
 | .ok b e=>o=some (true,l,(b:Int),0,out++e)
 | .bad k c=>∃ out',o=some (false,l,(k:Int),c,out')
abbrev FnOK (l:List Tok) (n c d:Nat) (f:List Tok→Int→Int→List Prt→Option (Bool×List Tok×Int×Int×List Prt)):Prop:=∀ (a:Nat) (out:List Prt),16*(l.length-a)+2*(7-n)<d+c→a<l.length→out.length+(l.length-a)<200000→∃ r,PF l (.lv n a) r∧RsF l out r (f l a 0 out)
abbrev opsP (ops:List Int):List Prt:=ops.map fun k=>(k,[])
noncomputable abbrev leFR (d:Nat):=R129 M127 M128 (Rec80 d).2.2.1
theorem leF_loop (hl:toksOK l) (hll:l.length≤60001) (d:Nat) (hn:FnOK l (2+1) 0 d (Rec80 d).2.2.1) (p2:List Tok) (p3 p4:Int) (p5:List Prt):∀ (t b m:Nat) (out e:List Prt),l.length-b≤t→t<m→16*(l.length-b)+2*(7-2)<d+2→b<l.length→out.length+e.length+(l.length-b)<200000→
  ∃ r,PF l (.lp 2 b e) r∧RsF l out r (leFR d [124,124] 6 p2 p3 p4 p5 m (.l0 l b 0 (out++e)))
 | t,b,0,out,e,ht,hm,hd,hb,ho=>by omega
 | 0,b,m+1,out,e,ht,hm,hd,hb,ho=>by omega
 | t+1,b,m+1,out,e,ht,hm,hd,hb,ho=>by
   have hU:leFR d [124,124] 6 p2 p3 p4 p5 (m+1) (.l0 l b 0 (out++e))=T129 Ops.std M127 M128 (Rec80 d).2.2.1 [124,124] 6 p2 p3 p4 p5 (leFR d [124,124] 6 p2 p3 p4 p5 m) some (some (.l0 l b 0 (out++e))):=rfl
   rw [hU]
   unfold T129
   have hw1:IntKind.wrap IntKind.i64 ((b:Int)+1)=((b+1:Nat):Int):=qai (by omega)
   have hsg:sgF 2 (txF l b)=if txF l b=[124,124] then 6 else 0:=rfl
   simp only [qa0 hb,ob_s,beqI,hw1]
   by_cases hs:txF l b=[124,124]
   ·rw [if_pos hs] at hsg
    have h0:sgF 2 (txF l b)≠0:=by rw [hsg];decide
    have hb1:=qa1 hl hb (by rw [hs];decide)
    rw [if_pos hs]
    obtain ⟨r,g1,g2⟩:=hn (b+1) (out++e) (by omega) hb1 (by simp;omega)
    cases r with
    | bad k c=>
      obtain ⟨out',g2⟩:=g2
      rw [g2,ob_s]
      exact ⟨_,pf_lpbad h0 g1,_,rfl⟩
    | ok c e2=>
      have g2:(Rec80 d).2.2.1 l ((b+1:Nat):Int) 0 (out++e)=some (true,l,(c:Int),0,out++e++e2):=g2
      obtain ⟨c1,c2,c3,_⟩:=g1.bd hl (by omega) (by omega) hb1
      rw [g2,ob_s]
      dsimp only
      simp only [Bool.not_true,cond_false]
      rw [qbe _ _ _ _ (by simp only [List.length_append];omega),ob_s]
      obtain ⟨r,j1,j2⟩:=leF_loop hl hll d hn p2 p3 p4 p5 t c m out (e++e2++[(6,[])]) (by omega) (by omega) (by omega) c2 (by simp;omega)
      have ea:out++(e++e2++[((6,[]):Prt)])=out++e++e2++[(6,[])]:=by simp
      rw [ea] at j2
      refine ⟨r,pf_more h0 g1 ?_,j2⟩
      rw [hsg]
      exact j1
   ·rw [if_neg hs] at hsg
    rw [if_neg hs]
    exact ⟨_,pf_stop hsg,rfl⟩
theorem leF_step (hl:toksOK l) (hll:l.length≤60001) (d:Nat) (hn:FnOK l (2+1) 0 d (Rec80 d).2.2.1):FnOK l 2 1 (d+1) (fun l a x out=>T129 Ops.std M127 M128 (Rec80 d).2.2.1 [124,124] 6 l a x out (leFR d [124,124] 6 l a x out 1000000) some none):=fun a out hd ha ho=>by
 dsimp only
 unfold T129
 obtain ⟨r,g1,g2⟩:=hn a out (by omega) ha ho
 cases r with
 | bad k c=>
   obtain ⟨out',g2⟩:=g2
   rw [g2,ob_s]
   exact ⟨_,pf_bad (by omega) (by omega) g1,_,rfl⟩
 | ok b e=>
   have g2:(Rec80 d).2.2.1 l (a:Int) 0 out=some (true,l,(b:Int),0,out++e):=g2
   obtain ⟨c1,c2,c3,_⟩:=g1.bd hl (by omega) (by omega) ha
   rw [g2,ob_s]
   dsimp only
   simp only [Bool.not_true,cond_false]
   obtain ⟨r,j1,j2⟩:=leF_loop hl hll d hn l a 0 out (l.length-b) b 1000000 out e (by omega) (by omega) (by omega) c2 (by omega)
   exact ⟨r,pf_l (by omega) g1 j1,j2⟩
noncomputable abbrev lbFR (d:Nat):=R180 M127 M128 (Rec80 d).2.2.2.1
theorem lbF_loop (hl:toksOK l) (hll:l.length≤60001) (d:Nat) (hn:FnOK l (3+1) 0 d (Rec80 d).2.2.2.1) (p2:List Tok) (p3 p4:Int) (p5:List Prt):∀ (t b m:Nat) (out e:List Prt),l.length-b≤t→t<m→16*(l.length-b)+2*(7-3)<d+2→b<l.length→out.length+e.length+(l.length-b)<200000→
  ∃ r,PF l (.lp 3 b e) r∧RsF l out r (lbFR d [38,38] 5 p2 p3 p4 p5 m (.l0 l b 0 (out++e)))
 | t,b,0,out,e,ht,hm,hd,hb,ho=>by omega
 | 0,b,m+1,out,e,ht,hm,hd,hb,ho=>by omega
 | t+1,b,m+1,out,e,ht,hm,hd,hb,ho=>by
   have hU:lbFR d [38,38] 5 p2 p3 p4 p5 (m+1) (.l0 l b 0 (out++e))=T180 Ops.std M127 M128 (Rec80 d).2.2.2.1 [38,38] 5 p2 p3 p4 p5 (lbFR d [38,38] 5 p2 p3 p4 p5 m) some (some (.l0 l b 0 (out++e))):=rfl
   rw [hU]
   unfold T180
   have hw1:IntKind.wrap IntKind.i64 ((b:Int)+1)=((b+1:Nat):Int):=qai (by omega)
   have hsg:sgF 3 (txF l b)=if txF l b=[38,38] then 5 else 0:=rfl
   simp only [qa0 hb,ob_s,beqI,hw1]
   by_cases hs:txF l b=[38,38]
   ·rw [if_pos hs] at hsg
    have h0:sgF 3 (txF l b)≠0:=by rw [hsg];decide
    have hb1:=qa1 hl hb (by rw [hs];decide)
    rw [if_pos hs]
    obtain ⟨r,g1,g2⟩:=hn (b+1) (out++e) (by omega) hb1 (by simp;omega)
    cases r with
    | bad k c=>
      obtain ⟨out',g2⟩:=g2
      rw [g2,ob_s]
      exact ⟨_,pf_lpbad h0 g1,_,rfl⟩
    | ok c e2=>
      have g2:(Rec80 d).2.2.2.1 l ((b+1:Nat):Int) 0 (out++e)=some (true,l,(c:Int),0,out++e++e2):=g2
      obtain ⟨c1,c2,c3,_⟩:=g1.bd hl (by omega) (by omega) hb1
      rw [g2,ob_s]
      dsimp only
      simp only [Bool.not_true,cond_false]
      rw [qbe _ _ _ _ (by simp only [List.length_append];omega),ob_s]
      obtain ⟨r,j1,j2⟩:=lbF_loop hl hll d hn p2 p3 p4 p5 t c m out (e++e2++[(5,[])]) (by omega) (by omega) (by omega) c2 (by simp;omega)
      have ea:out++(e++e2++[((5,[]):Prt)])=out++e++e2++[(5,[])]:=by simp
      rw [ea] at j2
      refine ⟨r,pf_more h0 g1 ?_,j2⟩
      rw [hsg]
      exact j1
   ·rw [if_neg hs] at hsg
    rw [if_neg hs]
    exact ⟨_,pf_stop hsg,rfl⟩
theorem lbF_step (hl:toksOK l) (hll:l.length≤60001) (d:Nat) (hn:FnOK l (3+1) 0 d (Rec80 d).2.2.2.1):FnOK l 3 1 (d+1) (fun l a x out=>T180 Ops.std M127 M128 (Rec80 d).2.2.2.1 [38,38] 5 l a x out (lbFR d [38,38] 5 l a x out 1000000) some none):=fun a out hd ha ho=>by
 dsimp only
 unfold T180
 obtain ⟨r,g1,g2⟩:=hn a out (by omega) ha ho
 cases r with
 | bad k c=>
   obtain ⟨out',g2⟩:=g2
   rw [g2,ob_s]
   exact ⟨_,pf_bad (by omega) (by omega) g1,_,rfl⟩
 | ok b e=>
   have g2:(Rec80 d).2.2.2.1 l (a:Int) 0 out=some (true,l,(b:Int),0,out++e):=g2
   obtain ⟨c1,c2,c3,_⟩:=g1.bd hl (by omega) (by omega) ha
   rw [g2,ob_s]
   dsimp only
   simp only [Bool.not_true,cond_false]
   obtain ⟨r,j1,j2⟩:=lbF_loop hl hll d hn l a 0 out (l.length-b) b 1000000 out e (by omega) (by omega) (by omega) c2 (by omega)
   exact ⟨r,pf_l (by omega) g1 j1,j2⟩
noncomputable abbrev rfFR (d:Nat):=R114 M127 M123 M128 M115 (Rec80 d).2.1
theorem rfF_back (hll:l.length≤60001) (d:Nat) (p0:List Tok) (p1 p2:Int) (p3:List Prt) (b:Nat):∀ (ops:List Int) (m:Nat) (rest:List Int) (out:List Prt),ops.length<m→out.length+ops.length<300000→
  rfFR d p0 p1 p2 p3 m (.l1010 ((ops.length:Nat)-1) l b 0 out (ops.reverse++rest))=some (true,l,(b:Int),0,out++opsP ops)
 | ops,0,rest,out,hm,ho=>by omega
 | [],m+1,rest,out,hm,ho=>by
  show T114 Ops.std _ _ _ _ _ p0 p1 p2 p3 _ some _=_
  unfold T114
  simp only [qal,qac]
  rw [if_pos (by simp)]
  simp [opsP]
 | x::ops,m+1,rest,out,hm,ho=>by
   have ih:=rfF_back hll d p0 p1 p2 p3 b ops m (x::rest) (out++[(x,[])]) (by simpa using hm) (by simp at ho ⊢;omega)
   show T114 Ops.std _ _ _ _ _ p0 p1 p2 p3 _ some _=_
   unfold T114
   simp only [qal,qax,qac,mt]
   have hi:(((x::ops).length:Nat):Int)-1=(ops.length:Nat):=by simp
   rw [hi,if_neg (by omega),if_pos (by simp;omega),qag]
   have hg:((x::ops).reverse++rest).getD ops.length 0=x:=by
    rw [List.reverse_cons,List.append_assoc]
    have:=qa7 ops.reverse x rest 0
    rw [List.length_reverse] at this
    exact this
   rw [hg,qbe _ _ _ _ (by omega),ob_s,List.reverse_cons,List.append_assoc]
   have e:out++opsP (x::ops)=out++[(x,[])]++opsP ops:=by simp [opsP]
   rw [e]
   exact ih
theorem rfF_loop (hl:toksOK l) (hll:l.length≤60001) (d:Nat) (hn:FnOK l (1+1) 0 d (Rec80 d).2.1) (p0:List Tok) (p1 p2:Int) (p3:List Prt):∀ (t a m:Nat) (ops:List Int) (out:List Prt),l.length-a≤t→200000+t<m→16*(l.length-a)+2*(7-1)<d+2→a<l.length→ops.length+out.length+(l.length-a)<200000→
  ∃ r,PF l (.lv 1 a) r∧(match r with
    | .ok b e=>rfFR d p0 p1 p2 p3 m (.l0 l a 0 ops out)=some (true,l,(b:Int),0,out++e++opsP ops.reverse)
    | .bad k c=>∃ out',rfFR d p0 p1 p2 p3 m (.l0 l a 0 ops out)=some (false,l,(k:Int),c,out'))
 | t,a,0,ops,out,ht,hm,hd,ha,ho=>by omega
 | 0,a,m+1,ops,out,ht,hm,hd,ha,ho=>by omega
 | t+1,a,m+1,ops,out,ht,hm,hd,ha,ho=>by
   have hU:rfFR d p0 p1 p2 p3 (m+1) (.l0 l a 0 ops out)=T114 Ops.std M127 M123 M128 M115 (Rec80 d).2.1 p0 p1 p2 p3 (rfFR d p0 p1 p2 p3 m) some (some (.l0 l a 0 ops out)):=rfl
   rw [hU]
   unfold T114
   obtain ⟨r,g1,g2⟩:=hn a out (by omega) ha (by omega)
   cases r with
   | bad k c=>
     obtain ⟨out',g2⟩:=g2
     dsimp only
     rw [g2,ob_s]
     exact ⟨_,pf_bad (by omega) (by omega) g1,_,rfl⟩
   | ok b e=>
     have g2:(Rec80 d).2.1 l (a:Int) 0 out=some (true,l,(b:Int),0,out++e):=g2
     obtain ⟨c1,c2,c3,_⟩:=g1.bd hl (by omega) (by omega) ha
     have hw1:IntKind.wrap IntKind.i64 ((b:Int)+1)=((b+1:Nat):Int):=qai (by omega)
     have hsg:sgF 1 (txF l b)=impW (txF l b):=rfl
     simp only [g2,ob_s,Bool.not_true,cond_false,qa0 c2,impF_prog,qap,qax,qac,mt,List.length_cons,List.length_nil,hw1,qck]
     by_cases hs:impW (txF l b)=0
     ·rw [if_pos hs]
      refine ⟨_,pf_r0 (by omega) g1 (hsg.trans hs),?_⟩
      have:=rfF_back hll d p0 p1 p2 p3 b ops.reverse m [] (out++e) (by simp;omega) (by simp;omega)
      simp only [List.reverse_reverse,List.append_nil,List.length_reverse] at this
      exact this
     ·have h0:sgF 1 (txF l b)≠0:=by rw [hsg];exact hs
      have hb1:=qa1 hl c2 (qcl h0).2.2
      rw [if_neg hs,if_pos (by omega)]
      obtain ⟨r,j1,j2⟩:=rfF_loop hl hll d hn p0 p1 p2 p3 t (b+1) m (ops++[impW (txF l b)]) (out++e) (by omega) (by omega) (by omega) hb1 (by simp;omega)
      cases r with
      | bad k c=>exact ⟨_,pf_rb (by omega) g1 h0 j1,j2⟩
      | ok c e2=>
        refine ⟨_,pf_r1 (by omega) g1 h0 j1,j2.trans ?_⟩
        rw [hsg]
        simp [opsP]
theorem rfF_step (hl:toksOK l) (hll:l.length≤60001) (d:Nat) (hn:FnOK l (1+1) 0 d (Rec80 d).2.1):FnOK l 1 1 (d+1) (fun l a x out=>T114 Ops.std M127 M123 M128 M115 (Rec80 d).2.1 l a x out (rfFR d l a x out 1000000) some none):=fun a out hd ha ho=>by
 dsimp only
 unfold T114
 simp only [mt]
 obtain ⟨r,g1,g2⟩:=rfF_loop hl hll d hn l a 0 out (l.length-a) a 1000000 [] out (by omega) (by omega) (by omega) ha (by simp;omega)
 refine ⟨r,g1,?_⟩
 cases r with
 | bad k c=>exact g2
 | ok b e=>
   refine g2.trans ?_
   simp [opsP]
noncomputable abbrev ruFR (d:Nat):=R179 M127 M123 M128 M143 (Rec80 d).2.2.2.2.1
theorem ruF_back (hll:l.length≤60001) (d:Nat) (p0:List Tok) (p1 p2:Int) (p3:List Prt) (b:Nat):∀ (ops:List Int) (m:Nat) (rest:List Int) (out:List Prt),ops.length<m→out.length+ops.length<300000→
  ruFR d p0 p1 p2 p3 m (.l1010 ((ops.length:Nat)-1) l b 0 out (ops.reverse++rest))=some (true,l,(b:Int),0,out++opsP ops)
 | ops,0,rest,out,hm,ho=>by omega
 | [],m+1,rest,out,hm,ho=>by
  show T179 Ops.std _ _ _ _ _ p0 p1 p2 p3 _ some _=_
  unfold T179
  simp only [qal,qac]
  rw [if_pos (by simp)]
  simp [opsP]
 | x::ops,m+1,rest,out,hm,ho=>by
   have ih:=ruF_back hll d p0 p1 p2 p3 b ops m (x::rest) (out++[(x,[])]) (by simpa using hm) (by simp at ho ⊢;omega)
   show T179 Ops.std _ _ _ _ _ p0 p1 p2 p3 _ some _=_
   unfold T179
   simp only [qal,qax,qac,mt]
   have hi:(((x::ops).length:Nat):Int)-1=(ops.length:Nat):=by simp
   rw [hi,if_neg (by omega),if_pos (by simp;omega),qag]
   have hg:((x::ops).reverse++rest).getD ops.length 0=x:=by
    rw [List.reverse_cons,List.append_assoc]
    have:=qa7 ops.reverse x rest 0
    rw [List.length_reverse] at this
    exact this
   rw [hg,qbe _ _ _ _ (by omega),ob_s,List.reverse_cons,List.append_assoc]
   have e:out++opsP (x::ops)=out++[(x,[])]++opsP ops:=by simp [opsP]
   rw [e]
   exact ih
theorem ruF_loop (hl:toksOK l) (hll:l.length≤60001) (d:Nat) (hn:FnOK l (4+1) 0 d (Rec80 d).2.2.2.2.1) (p0:List Tok) (p1 p2:Int) (p3:List Prt):∀ (t a m:Nat) (ops:List Int) (out:List Prt),l.length-a≤t→200000+t<m→16*(l.length-a)+2*(7-4)<d+2→a<l.length→ops.length+out.length+(l.length-a)<200000→
  ∃ r,PF l (.lv 4 a) r∧(match r with
    | .ok b e=>ruFR d p0 p1 p2 p3 m (.l0 l a 0 ops out)=some (true,l,(b:Int),0,out++e++opsP ops.reverse)
    | .bad k c=>∃ out',ruFR d p0 p1 p2 p3 m (.l0 l a 0 ops out)=some (false,l,(k:Int),c,out'))
 | t,a,0,ops,out,ht,hm,hd,ha,ho=>by omega
 | 0,a,m+1,ops,out,ht,hm,hd,ha,ho=>by omega
 | t+1,a,m+1,ops,out,ht,hm,hd,ha,ho=>by
   have hU:ruFR d p0 p1 p2 p3 (m+1) (.l0 l a 0 ops out)=T179 Ops.std M127 M123 M128 M143 (Rec80 d).2.2.2.2.1 p0 p1 p2 p3 (ruFR d p0 p1 p2 p3 m) some (some (.l0 l a 0 ops out)):=rfl
   rw [hU]
   unfold T179
   obtain ⟨r,g1,g2⟩:=hn a out (by omega) ha (by omega)
   cases r with
   | bad k c=>
     obtain ⟨out',g2⟩:=g2
     dsimp only
     rw [g2,ob_s]
     exact ⟨_,pf_bad (by omega) (by omega) g1,_,rfl⟩
   | ok b e=>
     have g2:(Rec80 d).2.2.2.2.1 l (a:Int) 0 out=some (true,l,(b:Int),0,out++e):=g2
     obtain ⟨c1,c2,c3,_⟩:=g1.bd hl (by omega) (by omega) ha
     have hw1:IntKind.wrap IntKind.i64 ((b:Int)+1)=((b+1:Nat):Int):=qai (by omega)
     have hsg:sgF 4 (txF l b)=untW (txF l b):=rfl
     simp only [g2,ob_s,Bool.not_true,cond_false,qa0 c2,untF_prog,qap,qax,qac,mt,List.length_cons,List.length_nil,hw1,qck]
     by_cases hs:untW (txF l b)=0
     ·rw [if_pos hs]
      refine ⟨_,pf_r0 (by omega) g1 (hsg.trans hs),?_⟩
      have:=ruF_back hll d p0 p1 p2 p3 b ops.reverse m [] (out++e) (by simp;omega) (by simp;omega)
      simp only [List.reverse_reverse,List.append_nil,List.length_reverse] at this
      exact this
     ·have h0:sgF 4 (txF l b)≠0:=by rw [hsg];exact hs
      have hb1:=qa1 hl c2 (qcl h0).2.2
      rw [if_neg hs,if_pos (by omega)]
      obtain ⟨r,j1,j2⟩:=ruF_loop hl hll d hn p0 p1 p2 p3 t (b+1) m (ops++[untW (txF l b)]) (out++e) (by omega) (by omega) (by omega) hb1 (by simp;omega)
      cases r with
      | bad k c=>exact ⟨_,pf_rb (by omega) g1 h0 j1,j2⟩
      | ok c e2=>
        refine ⟨_,pf_r1 (by omega) g1 h0 j1,j2.trans ?_⟩
        rw [hsg]
        simp [opsP]
theorem ruF_step (hl:toksOK l) (hll:l.length≤60001) (d:Nat) (hn:FnOK l (4+1) 0 d (Rec80 d).2.2.2.2.1):FnOK l 4 1 (d+1) (fun l a x out=>T179 Ops.std M127 M123 M128 M143 (Rec80 d).2.2.2.2.1 l a x out (ruFR d l a x out 1000000) some none):=fun a out hd ha ho=>by
 dsimp only
 unfold T179
 simp only [mt]
 obtain ⟨r,g1,g2⟩:=ruF_loop hl hll d hn l a 0 out (l.length-a) a 1000000 [] out (by omega) (by omega) (by omega) ha (by simp;omega)
 refine ⟨r,g1,?_⟩
 cases r with
 | bad k c=>exact g2
 | ok b e=>
   refine g2.trans ?_
   simp [opsP]
noncomputable abbrev prfR (d:Nat):=R144 M127 M147 (Rec80 d).2.2.2.2.2.1 M123 M128
theorem prf_back (hll:l.length≤60001) (d:Nat) (p0:List Tok) (p1 p2:Int) (p3:List Prt) (b:Nat):∀ (ops:List Int) (m:Nat) (rest:List Int) (out:List Prt),ops.length<m→out.length+ops.length<300000→
  prfR d p0 p1 p2 p3 m (.l1011 ((ops.length:Nat)-1) l b 0 out (ops.reverse++rest))=some (true,l,(b:Int),0,out++opsP ops)
 | ops,0,rest,out,hm,ho=>by omega
 | [],m+1,rest,out,hm,ho=>by
  show T144 Ops.std _ _ _ _ _ p0 p1 p2 p3 _ some _=_
  unfold T144
  simp only [qal,qac]
  rw [if_pos (by simp)]
  simp [opsP]
 | x::ops,m+1,rest,out,hm,ho=>by
   have ih:=prf_back hll d p0 p1 p2 p3 b ops m (x::rest) (out++[(x,[])]) (by simpa using hm) (by simp at ho ⊢;omega)
   show T144 Ops.std _ _ _ _ _ p0 p1 p2 p3 _ some _=_
   unfold T144
   simp only [qal,qax,qac,mt]
   have hi:(((x::ops).length:Nat):Int)-1=(ops.length:Nat):=by simp
   rw [hi,if_neg (by omega),if_pos (by simp;omega),qag]
   have hg:((x::ops).reverse++rest).getD ops.length 0=x:=by
    rw [List.reverse_cons,List.append_assoc]
    have:=qa7 ops.reverse x rest 0
    rw [List.length_reverse] at this
    exact this
   rw [hg,qbe _ _ _ _ (by omega),ob_s,List.reverse_cons,List.append_assoc]
   have e:out++opsP (x::ops)=out++[(x,[])]++opsP ops:=by simp [opsP]
   rw [e]
   exact ih
theorem prf_loop (hl:toksOK l) (hll:l.length≤60001) (d:Nat) (hn:FnOK l 6 0 d (Rec80 d).2.2.2.2.2.1) (p0:List Tok) (p1 p2:Int) (p3:List Prt):∀ (t a m:Nat) (ops:List Int) (out:List Prt),l.length-a≤t→200000+t<m→16*(l.length-a)+4<d+1→a<l.length→ops.length+out.length+(l.length-a)<200000→
  ∃ r,PF l (.lv 5 a) r∧(match r with
    | .ok b e=>prfR d p0 p1 p2 p3 m (.l0 (sgF 5 (txF l a)) l a 0 ops out)=some (true,l,(b:Int),0,out++e++opsP ops.reverse)
    | .bad k c=>∃ out',prfR d p0 p1 p2 p3 m (.l0 (sgF 5 (txF l a)) l a 0 ops out)=some (false,l,(k:Int),c,out'))
 | t,a,0,ops,out,ht,hm,hd,ha,ho=>by omega
 | 0,a,m+1,ops,out,ht,hm,hd,ha,ho=>by omega
 | t+1,a,m+1,ops,out,ht,hm,hd,ha,ho=>by
   have hU:prfR d p0 p1 p2 p3 (m+1) (.l0 (sgF 5 (txF l a)) l a 0 ops out)=T144 Ops.std M127 M147 (Rec80 d).2.2.2.2.2.1 M123 M128 p0 p1 p2 p3 (prfR d p0 p1 p2 p3 m) some (some (.l0 (sgF 5 (txF l a)) l a 0 ops out)):=rfl
   rw [hU]
   unfold T144
   have hw1:IntKind.wrap IntKind.i64 ((a:Int)+1)=((a+1:Nat):Int):=qai (by omega)
   simp only [qap,qax,qa6,qac,mt,List.length_cons,List.length_nil,hw1,qck,ahdF_prog,ob_s]
   by_cases hs:sgF 5 (txF l a)=0
   ·rw [if_neg (fun h=>h hs)]
    obtain ⟨r,g1,g2⟩:=hn a out (by omega) ha (by omega)
    refine ⟨r,pf_p0 hs g1,?_⟩
    cases r with
    | bad k c=>
      obtain ⟨out',g2⟩:=g2
      rw [g2,ob_s]
      exact ⟨_,rfl⟩
    | ok b e=>
      have g2:(Rec80 d).2.2.2.2.2.1 l (a:Int) 0 out=some (true,l,(b:Int),0,out++e):=g2
      obtain ⟨c1,c2,c3,_⟩:=g1.bd hl (by omega) (by omega) ha
      rw [g2,ob_s]
      dsimp only
      simp only [Bool.not_true,cond_false]
      have:=prf_back hll d p0 p1 p2 p3 b ops.reverse m [] (out++e) (by simp;omega) (by simp;omega)
      simp only [List.reverse_reverse,List.append_nil,List.length_reverse] at this
      exact this
   ·have ha1:=qa1 hl ha (qcl hs).2.2
    rw [if_pos hs,if_pos (by omega),qa0 ha1,ob_s]
    dsimp only
    obtain ⟨r,j1,j2⟩:=prf_loop hl hll d hn p0 p1 p2 p3 t (a+1) m (ops++[sgF 5 (txF l a)]) out (by omega) (by omega) (by omega) ha1 (by simp;omega)
    cases r with
    | bad k c=>exact ⟨_,pf_pb hs j1,j2⟩
    | ok b e=>
      refine ⟨_,pf_p1 hs j1,j2.trans ?_⟩
      simp [opsP]
theorem prf_step (hl:toksOK l) (hll:l.length≤60001) (d:Nat) (hn:FnOK l 6 0 d (Rec80 d).2.2.2.2.2.1):FnOK l 5 0 (d+1) (fun l a x out=>T144 Ops.std M127 M147 (Rec80 d).2.2.2.2.2.1 M123 M128 l a x out (prfR d l a x out 1000000) some none):=fun a out hd ha ho=>by
 dsimp only
 unfold T144
 simp only [mt,qa0 ha,ob_s,ahdF_prog]
 obtain ⟨r,g1,g2⟩:=prf_loop hl hll d hn l a 0 out (l.length-a) a 1000000 [] out (by omega) (by omega) (by omega) ha (by simp;omega)
 refine ⟨r,g1,?_⟩
 cases r with
 | bad k c=>exact g2
 | ok b e=>
   refine g2.trans ?_
   simp [opsP]
theorem expF_prog (hl:toksOK l) (hll:l.length≤60001) {a:Nat} (ha:a<l.length) (ht:txF l a=[91]) (out:List Prt) (ho:out.length<200000):∃ r,PF l (.lv 6 a) r∧RsF l out r (M149 l a 0 out):=by
 have ha1:=qa1 hl ha (by rw [ht];decide)
 have hM:M149 l a 0 out=T149 Ops.std M25 M151 M127 l a 0 out some:=rfl
 rw [hM]
 unfold T149
 have hw1:IntKind.wrap IntKind.i64 ((a:Int)+1)=((a+1:Nat):Int):=qai (by omega)
 obtain ⟨r,g1,g2⟩:=take_prog hl hll ha1
 refine ⟨_,pf_ex ht g1,?_⟩
 rw [hw1,g2,ob_s]
 simp only [qap,qax,qa6,qac,mt,List.length_cons,List.length_nil]
 have hbd:=g1.bd hl (Nat.le_refl 1) ha1
 cases r with
 | bad k=>
   have e1:takeR (a+1) (.bad k)=((k:Int),2,[]):=rfl
   rw [e1]
   dsimp only
   rw [if_neg (by decide),if_pos (by decide),qbf,ob_s]
   exact ⟨_,rfl⟩
 | ok b e=>
   obtain ⟨_,hb,_,_⟩:=hbd
   by_cases h30:30<e.length
   ·have e1:takeR (a+1) (.ok b e)=(((a+1:Nat):Int),13,[]):=if_pos h30
    have e2:exF l a (.ok b e)=.bad a 13:=if_pos h30
    rw [e1,e2]
    dsimp only
    rw [if_pos rfl,qbf,ob_s]
    exact ⟨_,rfl⟩
   ·have e1:takeR (a+1) (.ok b e)=((b:Int),0,e):=if_neg h30
    have e2:exF l a (.ok b e)=if txF l b=[93] then .ok (b+1) [(3,e)] else .bad b 2:=if_neg h30
    rw [e1]
    dsimp only
    rw [if_neg (show ¬ ((0:Int)=13) by decide),if_neg (show ¬ ¬ ((0:Int)=0) from fun h=>h rfl),qa0 hb,ob_s,e2]
    simp only [beqN]
    by_cases h93:txF l b=[93]
    ·rw [if_pos h93,if_pos h93,if_pos (by omega),show IntKind.wrap IntKind.i64 ((b:Int)+1)=((b+1:Nat):Int) from qai (by omega)]
     exact rfl
    ·rw [if_neg h93,if_neg h93,qbf,ob_s]
     exact ⟨_,rfl⟩
theorem bra_stepF (hl:toksOK l) (hll:l.length≤60001) (d:Nat) (hn:FnOK l 1 0 d (Rec80 d).1) {a:Nat} (ha:a<l.length) (ht:txF l a=[40]) (out:List Prt) (hd:16*(l.length-a)<d+4) (ho:out.length+(l.length-a)<200000):∃ r,PF l (.lv 6 a) r∧RsF l out r (T150 Ops.std (Rec80 d).1 M127 M151 l a 0 out some):=by
 have ha1:=qa1 hl ha (by rw [ht];decide)
 unfold T150
 have hw1:IntKind.wrap IntKind.i64 ((a:Int)+1)=((a+1:Nat):Int):=qai (by omega)
 obtain ⟨r,g1,g2⟩:=hn (a+1) out (by omega) ha1 (by omega)
 rw [hw1]
 cases r with
 | bad k c=>
   obtain ⟨out',g2⟩:=g2
   rw [g2,ob_s]
   exact ⟨_,pf_brab ht g1,_,rfl⟩
 | ok b e=>
   have g2:(Rec80 d).1 l ((a+1:Nat):Int) 0 out=some (true,l,(b:Int),0,out++e):=g2
   obtain ⟨c1,c2,c3,_⟩:=g1.bd hl (by omega) (by omega) ha1
   refine ⟨_,pf_bra ht g1,?_⟩
   rw [g2,ob_s]
   dsimp only
   simp only [Bool.not_true,cond_false]
   rw [qa0 c2,ob_s]
   simp only [beqN]
   by_cases h41:txF l b=[41]
   ·rw [if_pos h41,if_pos h41,show IntKind.wrap IntKind.i64 ((b:Int)+1)=((b+1:Nat):Int) from qai (by omega)]
    exact rfl
   ·rw [if_neg h41,if_neg h41,qbf,ob_s]
    exact ⟨_,rfl⟩
theorem RsF.pass {out:List Prt} {r:FRs} {o:Option (Bool×List Tok×Int×Int×List Prt)} (h:RsF l out r o):RsF l out r (ob o fun y0=>some (y0.1,y0.2.1,y0.2.2.1,y0.2.2.2.1,y0.2.2.2.2)):=by
 cases r with
 | ok b e=>
   have h:o=_:=h
   rw [h,ob_s]
   exact rfl
 | bad k c=>
   obtain ⟨out',h⟩:=h
   rw [h,ob_s]
   exact ⟨_,rfl⟩
theorem atom_stepF (hl:toksOK l) (hll:l.length≤60001) (d:Nat) (hb:∀ {a:Nat},a<l.length→txF l a=[40]→∀ (out:List Prt),16*(l.length-a)<d+3→out.length+(l.length-a)<200000→∃ r,PF l (.lv 6 a) r∧RsF l out r ((Rec80 d).2.2.2.2.2.2.1 l a 0 out)):FnOK l 6 0 (d+1) (fun l a x out=>T148 Ops.std M127 M128 M149 (Rec80 d).2.2.2.2.2.2.1 M151 l a x out some):=fun a out hd ha ho=>by
 dsimp only
 unfold T148
 have hw1:IntKind.wrap IntKind.i64 ((a:Int)+1)=((a+1:Nat):Int):=qai (by omega)
 rw [qa0 ha,ob_s]
 simp only [beqI,hw1]
 by_cases h1:txF l a=[116,114,117,101]
 ·rw [if_pos h1,qbe _ _ _ _ (by omega),ob_s]
  exact ⟨_,pf_true h1,rfl⟩
 rw [if_neg h1]
 by_cases h2:txF l a=[102,97,108,115,101]
 ·rw [if_pos h2,qbe _ _ _ _ (by omega),ob_s]
  exact ⟨_,pf_false h2,rfl⟩
 rw [if_neg h2]
 by_cases h3:txF l a=[91]
 ·rw [if_pos h3]
  obtain ⟨r,g1,g2⟩:=expF_prog hl hll ha h3 out (by omega)
  exact ⟨r,g1,g2.pass⟩
 rw [if_neg h3]
 by_cases h4:txF l a=[40]
 ·rw [if_pos h4]
  obtain ⟨r,g1,g2⟩:=hb ha h4 out (by omega) ho
  exact ⟨r,g1,g2.pass⟩
 rw [if_neg h4,qbf,ob_s]
 exact ⟨_,pf_none h1 h2 h3 h4,_,rfl⟩
structure AllF (l:List Tok) (d:Nat):Prop where
 f1:FnOK l 1 0 d (Rec80 d).1
 f2:FnOK l 2 0 d (Rec80 d).2.1
 f3:FnOK l 3 0 d (Rec80 d).2.2.1
 f4:FnOK l 4 0 d (Rec80 d).2.2.2.1
 f5:FnOK l 5 0 d (Rec80 d).2.2.2.2.1
 f6:FnOK l 6 0 d (Rec80 d).2.2.2.2.2.1
 br:∀ {a:Nat},a<l.length→txF l a=[40]→∀ (out:List Prt),16*(l.length-a)<d+3→out.length+(l.length-a)<200000→∃ r,PF l (.lv 6 a) r∧RsF l out r ((Rec80 d).2.2.2.2.2.2.1 l a 0 out)
 ru:FnOK l 4 1 d (Rec80 d).2.2.2.2.2.2.2.1
 lb:FnOK l 3 1 d ((Rec80 d).2.2.2.2.2.2.2.2.1 [38,38] 5)
 le:FnOK l 2 1 d ((Rec80 d).2.2.2.2.2.2.2.2.2.1 [124,124] 6)
 rf:FnOK l 1 1 d (Rec80 d).2.2.2.2.2.2.2.2.2.2
theorem FnOK.pass {n d:Nat} {f:List Tok→Int→Int→List Prt→Option (Bool×List Tok×Int×Int×List Prt)} (h:FnOK l n 1 d f):FnOK l n 0 (d+1) (fun l a x out=>ob (f l a x out) fun y0=>some (y0.1,y0.2.1,y0.2.2.1,y0.2.2.2.1,y0.2.2.2.2)):=fun a out hd ha ho=>by
 obtain ⟨r,g1,g2⟩:=h a out (by omega) ha ho
 exact ⟨r,g1,g2.pass⟩
theorem allF (hl:toksOK l) (hll:l.length≤60001):∀ d,AllF l d
 | 0=>⟨fun a out h _ _=>by omega,fun a out h _ _=>by omega,fun a out h _ _=>by omega,fun a out h _ _=>by omega,fun a out h _ _=>by omega,fun a out h _ _=>by omega,fun ha _ out h _=>by omega,fun a out h _ _=>by omega,fun a out h _ _=>by omega,fun a out h _ _=>by omega,fun a out h _ _=>by omega⟩
 | d+1=>by
   have h:=allF hl hll d
   exact ⟨h.rf.pass,h.le.pass,h.lb.pass,h.ru.pass,prf_step hl hll d h.f6,atom_stepF hl hll d h.br,fun ha ht out hd ho=>bra_stepF hl hll d h.f1 ha ht out (by omega) ho,ruF_step hl hll d h.f5,lbF_step hl hll d h.f4,leF_step hl hll d h.f3,rfF_step hl hll d h.f2⟩
theorem formula_prog (hl:toksOK l) (hll:l.length≤60001) {a:Nat} (ha:a<l.length):∃ r,PF l (.lv 1 a) r∧RsF l [] r (M80 l a 0 []):=
 (allF hl hll 1000000).f1 a [] (by omega) ha (by simp;omega)
end
def parseF (l:List Tok):FRs→Int×Int×List Prt
 | .bad k c=>(c,(tkD l k).2.2.2,[])
 | .ok b e=>if (tkD l b).1=5 then (if 24<e.length then (13,0,[]) else (0,0,e)) else (2,(tkD l b).2.2.2,[])
def FParseIs (s:List UInt8) (y:Int×Int×List Prt):Prop:=
 (∃ (e x:Int) (l:List Tok),lexS s=(e,x,l)∧e≠0∧y=(e,x,[]))∨∃ (x:Int) (l:List Tok) (r:FRs),lexS s=(0,x,l)∧PF l (.lv 1 0) r∧y=parseF l r
theorem fparse_prog (s:List UInt8):∃ y,FParseIs s y∧M39 s=some y:=by
 have hM:M39 s=T39 Ops.std M29 M80 s some:=rfl
 rw [hM]
 unfold T39
 rw [lex_prog,ob_s]
 simp only [qap,qal,qan,qa6,qac,mt]
 generalize hr:lexS s=y
 obtain ⟨e,x,l⟩:=y
 dsimp only
 by_cases he:e=0
 ·subst he
  obtain ⟨hl,hlen,hs⟩:=lexS_ok hr
  have hp:=toks_len hl
  obtain ⟨r,g1,g2⟩:=formula_prog hl (by omega) hp
  refine ⟨_,.inr ⟨x,l,r,hr,g1,rfl⟩,?_⟩
  rw [if_neg (by simp)]
  have hbd:=g1.bd hl (by omega) (by omega) hp
  cases r with
  | bad k c=>
    obtain ⟨out',g2⟩:=g2
    have g2:M80 l 0 0 []=some (false,l,(k:Int),c,out'):=g2
    have hk:(0:Int)≤(k:Int)∧(k:Int)<(l.length:Int):=by have:=hbd.2.1;omega
    rw [g2,ob_s]
    simp only [Bool.not_false,cond_true,qag]
    rw [if_pos hk]
    rfl
  | ok b e=>
    have g2:M80 l 0 0 []=some (true,l,(b:Int),0,[]++e):=g2
    have hk:(0:Int)≤(b:Int)∧(b:Int)<(l.length:Int):=by have:=hbd.2.1;omega
    rw [g2,ob_s]
    simp only [Bool.not_true,cond_false,qag,List.nil_append,if_pos hk,parseF]
    by_cases h5:(l.getD b (Ty.dflt ty85)).1=5
    ·rw [if_neg (fun h=>h h5),if_pos h5]
     by_cases h24:24<e.length
     ·rw [if_pos (by omega),if_pos h24]
     ·rw [if_neg (by omega),if_neg h24]
    ·rw [if_pos h5,if_neg h5]
 ·rw [if_pos he]
  exact ⟨_,.inl ⟨e,x,l,hr,he,rfl⟩,rfl⟩
theorem FParseIs.good {s:List UInt8} {y:Int×Int×List Prt} (h:FParseIs s y):(y.1=0∧∃ t:Fm Trm,t.wf rightE∧y.2.2=t.flat∧t.size≤24∧∀ p∈t.flat,shortP p)∨(y.1≠0∧y.2.2=[]):=by
 rcases h with ⟨e,x,l,h1,h2,rfl⟩ | ⟨x,l,r,h1,h2,rfl⟩
 ·exact .inr ⟨h2,rfl⟩
 ·obtain ⟨hl,hlen,hs⟩:=lexS_ok h1
  have hbd:=h2.bd hl (by omega) (by omega) (toks_len hl)
  cases r with
  | bad k c=>
    refine .inr ⟨?_,rfl⟩
    show c≠0
    rcases hbd.2.2 with rfl | rfl<;>decide
  | ok b e=>
    unfold parseF
    dsimp only
    by_cases h5:(tkD l b).1=5
    ·rw [if_pos h5]
     by_cases h24:24<e.length
     ·rw [if_pos h24];exact .inr ⟨by show (13:Int)≠0;decide,rfl⟩
     ·rw [if_neg h24]
      obtain ⟨t,t1,t2,t3⟩:=rightF_tree rightE (hbd.2.2.2.right (by omega))
      refine .inl ⟨rfl,t,t1,t2,?_,?_⟩
      ·have:=t.flat_len
       rw [←t2] at this
       omega
      ·rw [←t2];exact hbd.2.2.2.2
    ·rw [if_neg h5]
     exact .inr ⟨by show (2:Int)≠0;decide,rfl⟩
theorem pickN (x:Int) (n:Nat) (h0:0<n) (h1:n<1000000):∃ k:Nat,k<n∧M24 x (n:Nat)=some (k:Int):=by
 show ∃ k:Nat,k<n∧T24 Ops.std x (n:Nat) some=_
 unfold T24
 simp only [qap,qal,qac]
 rw [if_neg (by omega)]
 have h2:=Int.tmod_lt_of_pos x (show (0:Int)<(n:Nat) by omega)
 have h3:=Int.lt_tmod_of_pos x (show (0:Int)<(n:Nat) by omega)
 generalize Int.tmod x (n:Nat)=q at h2 h3 ⊢
 by_cases hq:q<0
 ·refine ⟨(q+n).toNat,by omega,?_⟩
  rw [if_pos hq,wrap64 (by omega) (by omega)]
  congr 1;omega
 ·refine ⟨q.toNat,by omega,?_⟩
  rw [if_neg hq]
  congr 1;omega
theorem qc5 (l:List Int) (pl:Nat) (a:Nat) (ha:a≤1000) (n:Nat) (h0:0<n) (h1:n<1000):∃ (k a':Nat),k<n∧a≤a'∧a'≤a+1∧M90 (n:Nat) l (a:Nat)=some ((k:Int),l,(a':Int)):=by
 show ∃ (k a':Nat),k<n∧a≤a'∧a'≤a+1∧T90 Ops.std M24 (n:Nat) l (a:Nat) some=_
 unfold T90
 simp only [qap,qan,qac]
 by_cases hl:(l.length:Int)=0
 ·rw [if_pos hl]
  exact ⟨0,a,h0,Nat.le_refl _,by omega,rfl⟩
 ·have hw:IntKind.wrap IntKind.i64 ((a:Int)+1)=((a+1:Nat):Int):=qai (by omega)
  rw [if_neg hl,if_neg hl,hw]
  have ht:Int.tmod ((a+1:Nat):Int) (l.length:Nat)=(((a+1) % l.length:Nat):Int):=by rw [←Int.ofNat_tmod]
  have hd:Int.tdiv ((a+1:Nat):Int) (l.length:Nat)=(((a+1) / l.length:Nat):Int):=by rw [←Int.ofNat_tdiv]
  rw [ht,hd]
  have hlp:0<l.length:=by omega
  have hm:=Nat.mod_lt (a+1) hlp
  have hq:(a+1) / l.length≤a+1:=Nat.div_le_self _ _
  generalize (a+1) / l.length=q at hq ⊢
  generalize (a+1) % l.length=m at hm ⊢
  rw [if_pos (by omega),if_neg hl,wrap64 (n:=(q:Int)) (by omega) (by omega),wrap64 (n:=1+(q:Int)) (by omega) (by omega),if_neg (by omega)]
  obtain ⟨k,hk,hp⟩:=pickN (IntKind.wrap IntKind.i64 (Int.tdiv (l.getD (Int.toNat (m:Int)) (Ty.dflt ty3)) (1+(q:Int)))) n h0 (by omega)
  rw [hp,ob_s]
  exact ⟨k,a+1,hk,by omega,by omega,rfl⟩
def fB:Nat→Nat
 | 0=>20
 | h+1=>2*fB h+20
def fA:Nat→Nat
 | 0=>3
 | h+1=>2*fA h+3
theorem fB_le:∀ h,h≤3→fB h≤300∧fA h≤45:=by
 intro h hh
 match h with
 | 0 | 1 | 2 | 3=>decide
def FOk (l:List Int) (o:Option (List UInt8×List Int×Int)) (a b c:Nat):Prop:=∃ (s:List UInt8) (a':Nat),o=some (s,l,(a':Int))∧s.length≤b∧a≤a'∧a'≤a+c
theorem qdj {l:List (List UInt8)} {n:Nat} (h:l.all (fun x=>decide (x.length≤n))=true) (k:Nat):(l.getD k []).length≤n:=by
 rw [List.getD_eq_getElem?_getD]
 cases hk:l[k]? with
 | none=>simp
 | some x=>
   rw [List.all_eq_true] at h
   simpa using h x (List.mem_of_getElem? hk)
theorem form_k (l:List Int) (deep:Int) (d:Nat) (dp0:Int) (l0:List Int) (a0:Int) (B A:Nat) (hB:B≤300) (hA:A≤45) (k:Nat) (hk:k<22) (V:Nat) (hV:V≤900) (hrec:k<18→∀ a:Nat,a≤V→FOk l (Rec81 d (IntKind.wrap IntKind.i64 (deep+1)) l a) a B A) (a:Nat) (ha:a+60≤V) (n:Nat) :
  FOk l (R81 M90 (Rec81 d) deep l0 a0 (n+1) (.l1004 k l a)) a (2*B+20) (2*A+2):=by
 show FOk l (T81 Ops.std M90 (Rec81 d) deep l0 a0 _ some _) a _ _
 unfold T81
 simp only [qal,qap,qan,qax,qac,mt]
 by_cases h3:(k:Int)<3
 ·obtain ⟨s,a1,e1,e2,e3,e4⟩:=hrec (by omega) a (by omega)
  rw [if_pos h3,e1,ob_s]
  dsimp only
  simp only [List.length_append,List.length_cons,List.length_nil]
  rw [if_pos (by omega),if_pos (by omega)]
  exact ⟨_,a1,rfl,by simp;omega,by omega,by omega⟩
 ·rw [if_neg h3]
  by_cases h6:(k:Int)<6
  ·obtain ⟨s,a1,e1,e2,e3,e4⟩:=hrec (by omega) a (by omega)
   rw [if_pos h6,e1,ob_s]
   dsimp only
   simp only [List.length_append,List.length_cons,List.length_nil]
   rw [if_pos (by omega),if_pos (by omega)]
   exact ⟨_,a1,rfl,by simp;omega,by omega,by omega⟩
  ·rw [if_neg h6]
   by_cases h8:(k:Int)<8
   ·obtain ⟨s,a1,e1,e2,e3,e4⟩:=hrec (by omega) a (by omega)
    rw [if_pos h8,e1,ob_s]
    dsimp only
    rw [if_pos (by omega)]
    exact ⟨_,a1,rfl,by simp;omega,by omega,by omega⟩
   ·rw [if_neg h8]
    by_cases h11:(k:Int)<11
    ·obtain ⟨s,a1,e1,e2,e3,e4⟩:=hrec (by omega) a (by omega)
     rw [if_pos h11,e1,ob_s]
     dsimp only
     obtain ⟨j,a2,g1,g2,g3,g4⟩:=qc5 l 0 a1 (by omega) 2 (by omega) (by omega)
     have g4':M90 2 l (a1:Int)=some ((j:Int),l,(a2:Int)):=g4
     rw [if_pos (by omega),g4',ob_s]
     dsimp only
     rw [if_pos (by omega)]
     obtain ⟨s2,a3,f1,f2,f3,f4⟩:=hrec (by omega) a2 (by omega)
     have hlen:=qdj (n:=3) (l:=[([32,85,32]:List UInt8),([32,82,32]:List UInt8)]) rfl (Int.toNat (j:Int))
     generalize ([([32,85,32]:List UInt8),([32,82,32]:List UInt8)]:List (List UInt8)).getD (Int.toNat (j:Int)) []=x at hlen ⊢
     simp only [List.length_append,List.length_cons,List.length_nil]
     rw [if_pos (by omega),f1,ob_s]
     dsimp only
     rw [if_pos (by omega),if_pos (by omega)]
     exact ⟨_,a3,rfl,by simp;omega,by omega,by omega⟩
    ·rw [if_neg h11]
     by_cases h15:(k:Int)<15
     ·obtain ⟨s,a1,e1,e2,e3,e4⟩:=hrec (by omega) a (by omega)
      rw [if_pos h15,e1,ob_s]
      dsimp only
      obtain ⟨j,a2,g1,g2,g3,g4⟩:=qc5 l 0 a1 (by omega) 3 (by omega) (by omega)
      have g4':M90 3 l (a1:Int)=some ((j:Int),l,(a2:Int)):=g4
      rw [if_pos (by omega),g4',ob_s]
      dsimp only
      rw [if_pos (by omega)]
      obtain ⟨s2,a3,f1,f2,f3,f4⟩:=hrec (by omega) a2 (by omega)
      have hlen:=qdj (n:=4) (l:=[([32,38,38,32]:List UInt8),([32,124,124,32]:List UInt8),([32,45,62,32]:List UInt8)]) rfl (Int.toNat (j:Int))
      generalize ([([32,38,38,32]:List UInt8),([32,124,124,32]:List UInt8),([32,45,62,32]:List UInt8)]:List (List UInt8)).getD (Int.toNat (j:Int)) []=x at hlen ⊢
      simp only [List.length_append,List.length_cons,List.length_nil]
      rw [if_pos (by omega),f1,ob_s]
      dsimp only
      rw [if_pos (by omega),if_pos (by omega)]
      exact ⟨_,a3,rfl,by simp;omega,by omega,by omega⟩
     ·rw [if_neg h15]
      by_cases h17:(k:Int)<17
      ·obtain ⟨s,a1,e1,e2,e3,e4⟩:=hrec (by omega) a (by omega)
       rw [if_pos h17,e1,ob_s]
       dsimp only
       rw [if_pos (by omega)]
       exact ⟨_,a1,rfl,by simp;omega,by omega,by omega⟩
      ·rw [if_neg h17]
       by_cases h17':(k:Int)=17
       ·obtain ⟨s,a1,e1,e2,e3,e4⟩:=hrec (by omega) a (by omega)
        rw [if_pos h17',e1,ob_s]
        dsimp only
        rw [if_pos (by omega)]
        exact ⟨_,a1,rfl,by simp;omega,by omega,by omega⟩
       ·rw [if_neg h17']
        by_cases h18:(k:Int)=18
        ·rw [if_pos h18]
         obtain ⟨j,a2,g1,g2,g3,g4⟩:=qc5 l 0 a (by omega) 2 (by omega) (by omega)
         have g4':M90 2 l (a:Int)=some ((j:Int),l,(a2:Int)):=g4
         rw [g4',ob_s]
         dsimp only
         rw [if_pos (by omega)]
         have hlen:=qdj (n:=5) (l:=[([116,114,117,101]:List UInt8),([102,97,108,115,101]:List UInt8)]) rfl (Int.toNat (j:Int))
         exact ⟨_,a2,rfl,by omega,by omega,by omega⟩
        ·rw [if_neg h18]
         obtain ⟨j,a2,g1,g2,g3,g4⟩:=qc5 l 0 a (by omega) 6 (by omega) (by omega)
         have g4':M90 6 l (a:Int)=some ((j:Int),l,(a2:Int)):=g4
         rw [g4',ob_s]
         dsimp only
         rw [if_pos (by omega)]
         have hlen:=qdj (n:=10) (l:=[([91,120,61,61,49,93]:List UInt8),([91,112,64,97,93]:List UInt8),([91,121,60,49,93]:List UInt8),([91,113,64,98,38,38,120,62,48,93]:List UInt8),([91,120,61,61,121,93]:List UInt8),([91,112,64,98,93]:List UInt8)]) rfl (Int.toNat (j:Int))
         exact ⟨_,a2,rfl,by omega,by omega,by omega⟩
theorem FOk.mono {l:List Int} {o:Option (List UInt8×List Int×Int)} {a b c b' c':Nat} (h:FOk l o a b c) (hb:b≤b') (hc:c≤c'):FOk l o a b' c':=by
 obtain ⟨s,a',e1,e2,e3,e4⟩:=h
 exact ⟨s,a',e1,by omega,e3,by omega⟩
theorem form_h (l:List Int):∀ (h:Nat),h≤3→∀ (d:Nat),h<d→∀ (a:Nat),a≤400-100*h→FOk l (Rec81 d ((3-h:Nat):Int) l a) a (fB h) (fA h):=by
 intro h
 induction h with
 | zero=>
   intro hh d hd a ha
   obtain ⟨e,rfl⟩:∃ e,d=e+1:=⟨d-1,by omega⟩
   show FOk l (T81 Ops.std M90 (Rec81 e) ((3-0:Nat):Int) l a (R81 M90 (Rec81 e) ((3-0:Nat):Int) l a 1000000) some none) a _ _
   unfold T81
   obtain ⟨k,a1,e1,e2,e3,e4⟩:=qc5 l 0 a (by omega) 22 (by omega) (by omega)
   have e4':M90 22 l (a:Int)=some ((k:Int),l,(a1:Int)):=e4
   rw [e4',ob_s]
   simp only [qal,qap,qac]
   rw [if_pos (by omega),if_neg (by omega)]
   have ht:Int.tmod (k:Int) 4=((k % 4:Nat):Int):=by rw [show (4:Int)=((4:Nat):Int) from rfl,←Int.ofNat_tmod]
   rw [ht,show IntKind.wrap IntKind.i64 (18+((k % 4:Nat):Int))=((18+k % 4:Nat):Int) by rw [wrap64 (by omega) (by omega)];omega]
   have:=form_k l ((3-0:Nat):Int) e ((3-0:Nat):Int) l (a:Int) 0 0 (by omega) (by omega) (18+k % 4) (by omega) 900 (by omega) (fun h=>by omega) a1 (by omega) 999999
   obtain ⟨s,a',g1,g2,g3,g4⟩:=this
   exact ⟨s,a',g1,by simp [fB];omega,by omega,by simp [fA];omega⟩
 | succ h ih=>
   intro hh d hd a ha
   obtain ⟨e,rfl⟩:∃ e,d=e+1:=⟨d-1,by omega⟩
   have hb:=fB_le h (by omega)
   show FOk l (T81 Ops.std M90 (Rec81 e) ((3-(h+1):Nat):Int) l a (R81 M90 (Rec81 e) ((3-(h+1):Nat):Int) l a 1000000) some none) a _ _
   unfold T81
   obtain ⟨k,a1,e1,e2,e3,e4⟩:=qc5 l 0 a (by omega) 22 (by omega) (by omega)
   have e4':M90 22 l (a:Int)=some ((k:Int),l,(a1:Int)):=e4
   rw [e4',ob_s]
   simp only [qal,qap,qac]
   rw [if_neg (by omega)]
   have hdeep:IntKind.wrap IntKind.i64 (((3-(h+1):Nat):Int)+1)=((3-h:Nat):Int):=by rw [wrap64 (by omega) (by omega)];omega
   have hrec:∀ a:Nat,a≤400-100*h→FOk l (Rec81 e (IntKind.wrap IntKind.i64 (((3-(h+1):Nat):Int)+1)) l a) a (fB h) (fA h):=fun a ha=>by
    rw [hdeep];exact ih (by omega) e (by omega) a ha
   have step:=fun (k:Nat) (hk:k<22)=>form_k l ((3-(h+1):Nat):Int) e ((3-(h+1):Nat):Int) l (a:Int) (fB h) (fA h) (by omega) (by omega) k hk (400-100*h) (by omega) (fun _=>hrec) a1 (by omega) 999999
   have fin:∀ o,FOk l o a1 (2*fB h+20) (2*fA h+2)→FOk l o a (fB (h+1)) (fA (h+1)):=fun o ho=>by
    obtain ⟨s,a',g1,g2,g3,g4⟩:=ho
    exact ⟨s,a',g1,by simp only [fB];omega,by omega,by simp only [fA];omega⟩
   have ht:Int.tmod (k:Int) 4=((k % 4:Nat):Int):=by rw [show (4:Int)=((4:Nat):Int) from rfl,←Int.ofNat_tmod]
   split
   ·rw [if_neg (by omega),ht,show IntKind.wrap IntKind.i64 (18+((k % 4:Nat):Int))=((18+k % 4:Nat):Int) by rw [wrap64 (by omega) (by omega)];omega]
    exact fin _ (step (18+k % 4) (by omega))
   ·exact fin _ (step k e1)
theorem formula_ok (l:List Int):∃ s:List UInt8,M40 l=some s∧s.length≤300:=by
 obtain ⟨s,a',e1,e2,e3,e4⟩:=form_h l 3 (by omega) 1000000 (by omega) 0 (by omega)
 refine ⟨s,?_,Nat.le_trans e2 (by decide)⟩
 show T40 Ops.std M81 l some=_
 unfold T40
 have e1':M81 0 l 0=some (s,l,(a':Int)):=e1
 rw [e1',ob_s]
theorem qei:M38=some true:=by kernel_rfl
def rowK (b i:Nat) (r:List Int):Prop:=∀ j,j<r.length→∃ p:Nat,r.getD j 0=(p:Int)∧b≤p∧p<b+i∧(0<j→r.getD (j-1) 0<(p:Int))
theorem rowK.nil (b i:Nat):rowK b i []:=fun j h=>by simp at h
theorem kids_row {X:Type} (t:Fm X):∀ (b i:Nat),i<t.size→rowK b i ((t.kids b).getD i []):=by
 induction t with
 | nul p=>
   intro b i hi
   simp only [Fm.size] at hi
   obtain rfl:i=0:=by omega
   exact rowK.nil b 0
 | un p a ih=>
   intro b i hi
   have hp:=a.size_pos
   simp only [Fm.size] at hi
   simp only [Fm.kids]
   have hl:=a.kids_len b
   by_cases h:i<a.size
   ·rw [List.getD_eq_getElem?_getD,List.getElem?_append_left (by omega),←List.getD_eq_getElem?_getD]
    exact ih b i h
   ·obtain rfl:i=a.size:=by omega
    rw [List.getD_eq_getElem?_getD,List.getElem?_append_right (by omega),hl,Nat.sub_self]
    intro j hj
    simp only [List.getElem?_cons_zero,Option.getD_some,List.length_cons,List.length_nil] at hj ⊢
    obtain rfl:j=0:=by omega
    exact ⟨b+a.size-1,rfl,by omega,by omega,fun h=>by omega⟩
 | bi p a c iha ihc=>
   intro b i hi
   have hp:=a.size_pos
   have hq:=c.size_pos
   simp only [Fm.size] at hi
   simp only [Fm.kids]
   have hl:=a.kids_len b
   have hl2:=c.kids_len (b+a.size)
   by_cases h:i<a.size
   ·rw [List.getD_eq_getElem?_getD,List.getElem?_append_left (by simp;omega),List.getElem?_append_left (by omega),←List.getD_eq_getElem?_getD]
    exact iha b i h
   ·by_cases h2:i<a.size+c.size
    ·rw [List.getD_eq_getElem?_getD,List.getElem?_append_left (by simp;omega),List.getElem?_append_right (by omega),←List.getD_eq_getElem?_getD,hl]
     intro j hj
     obtain ⟨q,q1,q2,q3,q4⟩:=ihc (b+a.size) (i-a.size) (by omega) j hj
     exact ⟨q,q1,by omega,by omega,q4⟩
    ·obtain rfl:i=a.size+c.size:=by omega
     rw [List.getD_eq_getElem?_getD,List.getElem?_append_right (by simp;omega),List.length_append,hl,hl2,Nat.sub_self]
     intro j hj
     simp only [List.getElem?_cons_zero,Option.getD_some,List.length_cons,List.length_nil] at hj ⊢
     by_cases hj0:j=0
     ·subst hj0
      exact ⟨b+a.size-1,rfl,by omega,by omega,fun h=>by omega⟩
     ·obtain rfl:j=1:=by omega
      refine ⟨b+a.size+c.size-1,rfl,by omega,by omega,fun h=>?_⟩
      show ((b+a.size-1:Nat):Int)<((b+a.size+c.size-1:Nat):Int)
      omega
theorem cnt_one (p x:Nat):([((p:Nat):Int)]:List Int).count (x:Int)=if x=p then 1 else 0:=by
 by_cases h:x=p
 ·subst h;simp
 ·rw [if_neg h,List.count_eq_zero]
  simp;omega
theorem itec (P:Prop) [Decidable P]:(P∧(if P then 1 else 0:Nat)=1)∨(¬ P∧(if P then 1 else 0:Nat)=0):=by
 by_cases h:P
 ·exact .inl ⟨h,if_pos h⟩
 ·exact .inr ⟨h,if_neg h⟩
theorem kids_cnt {X:Type} (t:Fm X):∀ (b x:Nat),(t.kids b).flatten.count (x:Int)=if b≤x∧x+1<b+t.size then 1 else 0:=by
 induction t with
 | nul p=>
   intro b x
   rw [if_neg (by simp only [Fm.size];omega)]
   rfl
 | un p a ih=>
   intro b x
   have hp:=a.size_pos
   have hsz:(Fm.un p a).size=a.size+1:=rfl
   simp only [Fm.kids,List.flatten_append,List.flatten_cons,List.flatten_nil,List.append_nil,List.count_append,ih b x,cnt_one]
   have h1:=itec (b≤x∧x+1<b+a.size)
   have h2:=itec (x=b+a.size-1)
   by_cases h3:b≤x∧x+1<b+(Fm.un p a).size
   ·rw [if_pos h3];omega
   ·rw [if_neg h3];omega
 | bi p a c iha ihc=>
   intro b x
   have hp:=a.size_pos
   have hq:=c.size_pos
   have e:∀ u v:Int,([u,v]:List Int)=[u]++[v]:=fun u v=>rfl
   have hsz:(Fm.bi p a c).size=a.size+c.size+1:=rfl
   simp only [Fm.kids,List.flatten_append,List.flatten_cons,List.flatten_nil,List.append_nil,e,List.count_append,iha b x,ihc (b+a.size) x,cnt_one]
   have h1:=itec (b≤x∧x+1<b+a.size)
   have h2:=itec (b+a.size≤x∧x+1<b+a.size+c.size)
   have h3:=itec (x=b+a.size-1)
   have h4:=itec (x=b+a.size+c.size-1)
   by_cases h5:b≤x∧x+1<b+(Fm.bi p a c).size
   ·rw [if_pos h5];omega
   ·rw [if_neg h5];omega
def usedL (ps:List Int) (n:Nat):List Int:=(List.range n).map fun (p:Nat)=>((ps.count (p:Int):Nat):Int)
theorem used_len (ps:List Int) (n:Nat):(usedL ps n).length=n:=by simp [usedL]
theorem used_get (ps:List Int) {n p:Nat} (h:p<n) (d:Int):(usedL ps n).getD p d=((ps.count (p:Int):Nat):Int):=by
 unfold usedL
 rw [List.getD_eq_getElem?_getD,List.getElem?_eq_getElem (by simpa using h)]
 simp
theorem used_set (ps:List Int) {n p:Nat} (h:p<n):(usedL ps n).set p (((ps.count (p:Int):Nat):Int)+1)=usedL (ps++[(p:Int)]) n:=by
 refine List.ext_getElem (by simp [usedL]) fun i h1 h2=>?_
 simp only [usedL,List.getElem_set,List.getElem_map,List.getElem_range,List.count_append,cnt_one]
 by_cases hi:p=i
 ·subst hi;simp
 ·rw [if_neg hi,if_neg (by omega)];simp
theorem used_nil (n:Nat) (d:Int) (hd:d=0):List.replicate n d=usedL [] n:=by
 subst hd
 refine List.ext_getElem (by simp [usedL]) fun i h1 h2=>?_
 simp [usedL]
theorem kids_two {X:Type} (t:Fm X):∀ (b:Nat),∀ r∈t.kids b,r.length≤2:=by
 induction t with
 | nul p=>intro b r hr;simp only [Fm.kids,List.mem_singleton] at hr;subst hr;simp
 | un p a ih=>
   intro b r hr
   simp only [Fm.kids,List.mem_append,List.mem_singleton] at hr
   rcases hr with hr | rfl
   ·exact ih b r hr
   ·simp
 | bi p a c iha ihc=>
   intro b r hr
   simp only [Fm.kids,List.mem_append,List.mem_singleton] at hr
   rcases hr with (hr | hr) | rfl
   ·exact iha b r hr
   ·exact ihc _ r hr
   ·simp
theorem flat_two:∀ (K:List (List Int)),(∀ r∈K,r.length≤2)→K.flatten.length≤2*K.length
 | [],_=>by simp
 | r::K,h=>by
   have h1:=h r (by simp)
   have h2:=flat_two K (fun x hx=>h x (by simp [hx]))
   simp only [List.flatten_cons,List.length_append,List.length_cons]
   omega
theorem qdb {X:Type} {d:X} (l:List X) {i:Nat} (h:i<l.length):l.take (i+1)=l.take i++[l.getD i d]:=by
 rw [List.take_succ_eq_append_getElem h,List.getD_eq_getElem?_getD,List.getElem?_eq_getElem h]
 rfl
noncomputable abbrev kdR (p0:List Int):=R10 M38 M40 M39 M41 p0
section
variable {p0:List Int} {f:List Prt} {K:List (List Int)} {n:Nat} (hK:K.length=n) (hf:f.length=n) (hn:n≤100) (hr:∀ i,i<n→rowK 0 i (K.getD i [])) (h2:∀ r∈K,r.length≤2)
include hK hf hn hr h2
theorem kd_l1 (i:Nat) (hi:i<n) (len:Int) (r:List Int) (hrr:K.getD i []=r) (P:List Int) (hP:P.length≤500):∀ (q j m:Nat),j+q=r.length→kdR p0 (m+q+1) (.l1 f i len i r (r.length:Nat) j K (usedL (P++r.take j) n))=kdR p0 m (.l0 f len ((i+1:Nat):Int) K (usedL (P++r) n)):=by
 have hrl:r.length≤2:=by
  refine h2 r ?_
  rw [←hrr,List.getD_eq_getElem?_getD,List.getElem?_eq_getElem (by omega)]
  exact List.getElem_mem _
 intro q
 induction q with
 | zero=>
   intro j m hj
   show T10 Ops.std M38 M40 M39 M41 p0 (kdR p0 m) some _=_
   unfold T10
   simp only [qal,qac]
   rw [if_neg (by omega),show IntKind.wrap IntKind.i64 ((i:Int)+1)=((i+1:Nat):Int) from qai (by omega),List.take_of_length_le (by omega)]
 | succ q ih=>
   intro j m hj
   have hrow:=hr i hi
   rw [hrr] at hrow
   have hjl:j<r.length:=by omega
   obtain ⟨p,q1,q2,q3,q4⟩:=hrow j hjl
   have hpn:p<n:=by omega
   rw [show m+(q+1)+1=(m+q+1)+1 by omega]
   show T10 Ops.std M38 M40 M39 M41 p0 (kdR p0 (m+q+1)) some _=_
   unfold T10
   have hw1:IntKind.wrap IntKind.i64 ((j:Int)+1)=((j+1:Nat):Int):=qai (by omega)
   have q1':r.getD j (Ty.dflt ty3)=(p:Int):=q1
   have hrr':K.getD i (Ty.dflt ty22)=r:=hrr
   have hcl:(P++r.take j).count (p:Int)≤600:=Nat.le_trans List.count_le_length (by simp;omega)
   have hwc:IntKind.wrap IntKind.i64 ((((P++r.take j).count (p:Int):Nat):Int)+1)=(((P++r.take j).count (p:Int):Nat):Int)+1:=by rw [wrap64 (by omega) (by omega)]
   have hpre:P++r.take j++[(p:Int)]=P++r.take (j+1):=by
    rw [List.append_assoc,qdb (d:=0) r hjl,q1]
   have hin:(0:Int)≤(p:Int)∧(p:Int)<((n:Nat):Int):=by omega
   simp only [qal,qbd,qan,qac,qag,q1',hrr',used_len,used_get _ hpn,hwc,used_set _ hpn,hpre,hw1]
   rw [if_pos (by omega),if_pos (by omega),if_neg (by omega),if_neg (by omega)]
   simp only [if_pos hin]
   by_cases hj0:j=0
   ·subst hj0
    rw [if_neg (by omega)]
    exact ih 1 m (by omega)
   ·have hwm:IntKind.wrap IntKind.i64 ((j:Int)-1)=((j-1:Nat):Int):=by rw [wrap64 (by omega) (by omega)];omega
    simp only [hwm,qag]
    have q5:r.getD (j-1) (Ty.dflt (Ty.int IntKind.i64))<(p:Int):=q4 (by omega)
    rw [if_pos (by omega),if_pos (by omega),if_pos (by omega),if_neg (by omega)]
    exact ih (j+1) m (by omega)
theorem kd_l0 (H:∀ m,n<m→kdR p0 m (.l2 f (n:Nat) 0 (usedL K.flatten n))=some true):∀ (q i m:Nat),i+q=n→4*q+1+n<m→kdR p0 m (.l0 f (n:Nat) i K (usedL (K.take i).flatten n))=some true:=by
 intro q
 induction q with
 | zero=>
   intro i m hi hm
   obtain ⟨m,rfl⟩:∃ k,m=k+1:=⟨m-1,by omega⟩
   show T10 Ops.std M38 M40 M39 M41 p0 (kdR p0 m) some _=_
   unfold T10
   simp only [qal,qac,used_len]
   rw [if_neg (by omega),List.take_of_length_le (by omega)]
   exact H m (by omega)
 | succ q ih=>
   intro i m hi hm
   have hiK:i<K.length:=by omega
   obtain ⟨r,hrr⟩:∃ r,K.getD i []=r:=⟨_,rfl⟩
   have hrm:r∈K:=by
    rw [←hrr,List.getD_eq_getElem?_getD,List.getElem?_eq_getElem hiK]
    exact List.getElem_mem _
   have hrl:=h2 r hrm
   have hrr':K.getD i (Ty.dflt ty22)=r:=hrr
   obtain ⟨m,rfl⟩:∃ k,m=(k+r.length+1)+1:=⟨m-r.length-2,by omega⟩
   show T10 Ops.std M38 M40 M39 M41 p0 (kdR p0 (m+r.length+1)) some _=_
   unfold T10
   simp only [qal,qan,qac,qag,hrr']
   rw [if_pos (by omega),if_pos (by omega)]
   have hfl:=flat_two (K.take i) (fun x hx=>h2 x (List.mem_of_mem_take hx))
   rw [List.length_take] at hfl
   have h1:=kd_l1 (p0:=p0) hK hf hn hr h2 i (by omega) (n:Nat) r hrr (K.take i).flatten (by omega) r.length 0 m (by omega)
   rw [List.take_zero,List.append_nil] at h1
   refine h1.trans ?_
   have hfe:(K.take i).flatten++r=(K.take (i+1)).flatten:=by
    rw [qdb (d:=[]) K hiK,List.flatten_append,hrr]
    simp
   rw [hfe]
   exact ih (i+1) m (by omega) (by omega)
end
theorem kd_l2 {p0:List Int} {f:List Prt} {n:Nat} (hf:f.length=n) (hn:n≤100) (h0:0<n) {ps:List Int} (hc:∀ x:Nat,x<n→ps.count (x:Int)=if x+1<n then 1 else 0):∀ (q i m:Nat),i+q=n→q<m→kdR p0 m (.l2 f (n:Nat) i (usedL ps n))=some true:=by
 intro q
 induction q with
 | zero=>
   intro i m hi hm
   obtain ⟨m,rfl⟩:∃ k,m=k+1:=⟨m-1,by omega⟩
   show T10 Ops.std M38 M40 M39 M41 p0 (kdR p0 m) some _=_
   unfold T10
   simp only [qal,qac]
   rw [if_neg (by omega)]
 | succ q ih=>
   intro i m hi hm
   obtain ⟨m,rfl⟩:∃ k,m=k+1:=⟨m-1,by omega⟩
   show T10 Ops.std M38 M40 M39 M41 p0 (kdR p0 m) some _=_
   unfold T10
   have hin:i<n:=by omega
   have hw:IntKind.wrap IntKind.i64 (((f.length:Nat):Int)-1)=((n-1:Nat):Int):=by rw [wrap64 (by omega) (by omega)];omega
   have hw1:IntKind.wrap IntKind.i64 ((i:Int)+1)=((i+1:Nat):Int):=qai (by omega)
   simp only [hw,hw1]
   simp only [qal,qap,qan,qac,qag,used_len,used_get _ hin,hc i hin]
   rw [if_pos (by omega),if_pos (by omega)]
   have hi2:=ih (i+1) m (by omega) (by omega)
   by_cases hl:i+1<n
   ·have e1:decide ((i:Int)<((n-1:Nat):Int))=true:=decide_eq_true (by omega)
    simp only [if_pos hl,e1]
    exact (if_pos (by omega)).trans ((if_neg (by decide)).trans hi2)
   ·have e1:decide ((i:Int)<((n-1:Nat):Int))=false:=decide_eq_false (by omega)
    simp only [if_neg hl,e1]
    exact (if_pos (by omega)).trans ((if_neg (by decide)).trans hi2)
theorem condT13 {X Y:Option Bool} {b:Bool} (h:b=true):cond b X Y=X:=by rw [h];rfl
theorem right_nilF:M48 []=some false:=by
 rw [qec rightE [] (fun p hp=>by cases hp) ⟨by simp,fun p hp=>by cases hp⟩]
 rfl
theorem plainFormulaKids (p0:List Int) (w0:Ty.wf ty22 p0):M10 p0=some true:=by
 have hM:M10 p0=T10 Ops.std M38 M40 M39 M41 p0 (kdR p0 1000000) some none:=rfl
 obtain ⟨s,hs,_⟩:=formula_ok p0
 obtain ⟨y,hy,hp⟩:=fparse_prog s
 rw [hM]
 unfold T10
 rcases hy.good with ⟨h0,t,t1,t2,t3,t4⟩ | ⟨h0,h1⟩
 ·have hpos:=t.size_pos
  have hl:=t.flat_len
  have hkl:=t.kids_len 0
  have hr:M48 t.flat=some true:=by
   rw [qec rightE t.flat (fun p hp=>rightE_prog p.2 (by have:=(t4 p hp).1;omega)) ⟨by omega,fun p hp=>by have:=(t4 p hp).1;omega⟩,tree_rightF rightE t1 (by omega)]
  have hk:=prog_kids_yes rightE t1 (by omega) hr
  simp only [qei,ob_s,Bool.not_true,cond_false,hs,hp,t2,hk,qap,qbd,qax,qa6,qac]
  rw [if_neg (fun h=>h h0),hkl,hl,if_neg (fun h=>h rfl)]
  refine (condT13 ?_).trans ?_
  ·rw [if_pos trivial,if_pos (by omega),qag]
   exact decide_eq_true (by omega)
  rw [qag]
  rw [used_nil t.size (Ty.dflt (Ty.int IntKind.i64)) rfl]
  have H:=kd_l2 (p0:=p0) hl (by omega:t.size≤100) hpos (ps:=(t.kids 0).flatten) (fun x hx=>by
   rw [kids_cnt t 0 x]
   by_cases h:x+1<t.size
   ·rw [if_pos h,if_pos (by omega)]
   ·rw [if_neg h,if_neg (by omega)])
  have:=kd_l0 (p0:=p0) hkl hl (by omega) (fun i hi=>kids_row t 0 i hi) (kids_two t 0) (fun m hm=>H t.size 0 m (by omega) hm) t.size 0 1000000 (by omega) (by omega)
  rw [List.take_zero] at this
  exact this
 ·have hk:M41 []=some []:=prog_kids_no [] (right_nilF)
  simp only [qei,ob_s,Bool.not_true,cond_false,hs,hp,h1,hk,qap,qa6,qac]
  rw [if_pos h0]
end Go.Proofs.YtkmpkebaloejhaaDoor.Av
