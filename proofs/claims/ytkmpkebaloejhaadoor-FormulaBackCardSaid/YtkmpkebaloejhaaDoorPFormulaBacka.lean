/- The plain law of FormulaBack: what its twin computes answers true. Conditions: none. -/
import Derived.Test.YtkmpkebaloejhaaDoorFb3
import Derived.Test.YtkmpkebaloejhaaDoorRead
import Derived.KernelRfl
set_option linter.unusedSimpArgs false
set_option linter.unusedVariables false
set_option maxRecDepth 100000
namespace Go.Proofs.YtkmpkebaloejhaaDoor.Av
open Go
theorem qak (a b:Int):Ops.lt Ops.std a b=decide (a<b):=rfl
theorem qao (a b:Int):Ops.eq Ops.std a b=decide (a=b):=rfl
theorem qap (n b:Nat):Ops.lim Ops.std n b=decide (n*b≤140737488355328):=rfl
theorem qbp (a b:Int):Ops.le Ops.std a b=decide (a≤b):=by
 simp only [Ops.le,qak]
 by_cases h:a≤b
 ·have:¬ b<a:=by omega
  simp [h,this]
 ·have:b<a:=by omega
  simp [h,this]
theorem qam (j:Int) (n:Nat):Ops.inb Ops.std j n=decide (0≤j∧j<(n:Int)):=by
 simp only [Ops.inb,qak]
 by_cases h:j<0
 ·have:¬ (0≤j∧j<(n:Int)):=by omega
  simp [h,this]
 ·by_cases h2:j<(n:Int)
  ·have:(0≤j∧j<(n:Int)):=by omega
   simp [h,h2,this]
  ·have:¬ (0≤j∧j<(n:Int)):=by omega
   simp [h,h2,this]
theorem qaa {α:Type} (p:Prop) [Decidable p] (x y:α):cond (decide p) x y=if p then x else y:=by by_cases h:p<;>simp [h]
theorem qa7 (p:Prop) [Decidable p]:(!decide p)=decide (¬ p):=by by_cases h:p<;>simp [h]
theorem ob_s {α R:Type} (a:α) (f:α→Option R):ob (some a) f=f a:=rfl
theorem cond_t {α:Type} (x y:α):cond true x y=x:=rfl
theorem cond_f {α:Type} (x y:α):cond false x y=y:=rfl
theorem wrap64 {n:Int} (h1:-9223372036854775808≤n) (h2:n≤9223372036854775807):IntKind.wrap IntKind.i64 n=n:=wrap_id h1 h2
theorem qaf (n:Nat):Int.toNat (Nat.cast n)=n:=Int.toNat_natCast n
theorem qat {α:Type} (l:List α) (x:α) (r:List α) (d:α):(l++x::r).getD l.length d=x:=by
 rw [List.getD_eq_getElem?_getD,List.getElem?_append_right (Nat.le_refl _)];simp
theorem qbf {α:Type} {s:List α} {n:Nat} (d:α) (h:n<s.length):s.drop n=s.getD n d::s.drop (n+1):=by
 rw [List.drop_eq_getElem_cons h]
 congr 1
 simp [List.getD_eq_getElem?_getD,List.getElem?_eq_getElem h]
def digitP' (b:UInt8):Bool:=decide (48≤b.toNat) && decide (b.toNat≤57)
def lowerP (b:UInt8):Bool:=(decide (97≤b.toNat) && decide (b.toNat≤122)) || decide (b.toNat=95)
def wordP (b:UInt8):Bool:=lowerP b || digitP' b
def isWordP:List UInt8→Bool
 | []=>false
 | b::r=>lowerP b && r.all wordP && decide (r.length+1≤8)
theorem qcr (b:UInt8):M105 (b.toNat:Int)=some (lowerP b):=by
 show T105 Ops.std _ some=_
 unfold T105 lowerP
 simp only [qbp,qao,qaa]
 have e1:((97:Int)≤(b.toNat:Int))↔97≤b.toNat:=by omega
 have e2:((b.toNat:Int)≤(122:Int))↔b.toNat≤122:=by omega
 have e3:((b.toNat:Int)=(95:Int))↔b.toNat=95:=by omega
 simp only [e1,e2,e3]
 by_cases h1:97≤b.toNat<;>by_cases h2:b.toNat≤122<;>by_cases h3:b.toNat=95<;>simp [h1,h2,h3]
theorem qdp (b:UInt8):M102 (b.toNat:Int)=some (digitP' b):=by
 show T102 Ops.std _ some=_
 unfold T102 digitP'
 simp only [qbp,qao,qaa]
 have e1:((48:Int)≤(b.toNat:Int))↔48≤b.toNat:=by omega
 have e2:((b.toNat:Int)≤(57:Int))↔b.toNat≤57:=by omega
 simp only [e1,e2]
 by_cases h1:48≤b.toNat<;>by_cases h2:b.toNat≤57<;>simp [h1,h2]
theorem within_prog (b:UInt8):M106 (b.toNat:Int)=some (wordP b):=by
 show T106 Ops.std M105 M102 _ some=_
 unfold T106 wordP
 rw [qcr,qdp]
 simp only [ob_s]
 cases lowerP b<;>rfl
theorem run_prog {p:UInt8→Bool} {c:Int→Option Bool} (hc:∀ b:UInt8,c (b.toNat:Int)=some (p b)) (s:List UInt8) (hs:s.length<900000):F103 c s=some (s.takeWhile p):=by
 have h:∀ (t i n:Nat),i+t=s.length→t<n→R103 c s n (.l0 i)=some (s.take i++(s.drop i).takeWhile p):=by
  intro t
  induction t with
  | zero=>
    intro i n hi hn
    cases n with
    | zero=>omega
    | succ n=>
      show T103 Ops.std c s _ some _=_
      unfold T103
      simp only [qak,qam,qaa,qaf]
      rw [if_neg (by omega),if_pos (by omega),List.drop_eq_nil_of_le (show s.length≤i by omega)]
      simp
  | succ t ih=>
    intro i n hi hn
    cases n with
    | zero=>omega
    | succ n=>
      have hlt:i<s.length:=by omega
      show T103 Ops.std c s _ some _=_
      unfold T103
      have hw:IntKind.wrap IntKind.i64 ((i:Int)+1)=((i+1:Nat):Int):=qah (by omega)
      simp only [qak,qam,qaa,qaf]
      rw [if_pos (by omega),if_pos (by omega),hc,ob_s,qen hlt]
      cases hp:p (s.getD i 0) with
      | true=>
        simp only [cond_true]
        rw [hw,ih (i+1) n (by omega) (by omega),List.takeWhile_cons_of_pos hp]
        have:s.take (i+1)=s.take i++[s.getD i 0]:=by
         rw [List.take_add_one]
         simp [List.getD_eq_getElem?_getD,List.getElem?_eq_getElem hlt]
        rw [this]
        simp
      | false=>
        simp only [cond_false]
        rw [if_pos (by omega),List.takeWhile_cons_of_neg (by rw [hp];decide)]
        simp
 show T103 Ops.std c s _ some none=_
 unfold T103
 have:=h s.length 0 1000000 (by omega) (by omega)
 rw [List.take_zero,List.drop_zero,List.nil_append] at this
 exact this
theorem runW_prog (s:List UInt8) (hs:s.length<900000):M103 s=some (s.takeWhile wordP):=run_prog within_prog s hs
theorem qb6 {α:Type} (p:α→Bool):∀ l:List α,l.takeWhile p=l↔l.all p=true
 | []=>by simp
 | a::l=>by
   rw [List.takeWhile_cons,List.all_cons]
   cases hp:p a with
   | true=>simp [qb6 p l]
   | false=>simp
theorem qbg {b:UInt8} (h:lowerP b=true):wordP b=true:=by unfold wordP;rw [h];rfl
theorem isWord_prog (s:List UInt8):M95 s=some (isWordP s):=by
 unfold M95 F95 T95
 cases s with
 | nil=>rfl
 | cons b r=>
   simp only [qbp,qam,qaa,isWordP,List.length_cons]
   have e1:(!(b::r) == ([]:List UInt8))=true:=rfl
   rw [e1,cond_t]
   by_cases h8:r.length+1≤8
   ·rw [if_pos (by omega),if_pos (by omega),show (b::r).getD (Int.toNat 0) 0=b from rfl,qcr,ob_s]
    cases hl:lowerP b with
    | false=>simp
    | true=>
      simp only [cond_true]
      rw [runW_prog _ (by simp;omega),ob_s]
      have hb:=qbg hl
      simp only [Bool.true_and,h8,decide_true,Bool.and_true,Option.some.injEq]
      rw [Bool.eq_iff_iff,beq_iff_eq,qb6,List.all_cons,hb,Bool.true_and]
   ·rw [if_neg (by omega)]
    simp [h8]
abbrev Tok:=Int×List UInt8×Int×Int
def blankP (b:UInt8):Bool:=decide (b.toNat=32) || (decide (b.toNat=9) || decide (b.toNat=10))
def letterP (b:UInt8):Bool:=decide (b.toNat=88) || (decide (b.toNat=70) || (decide (b.toNat=71) || (decide (b.toNat=85) || decide (b.toNat=82))))
def valW (w:List UInt8):Int:=w.foldl (fun n b=>10*n+((b.toNat:Int)-48)) 0
def twos:List (List UInt8):=[[60,61],[62,61],[61,61],[33,61],[38,38],[124,124],[45,62]]
def ones:List UInt8:=[40,41,91,93,43,45,42,60,62,33,64,59,61]
def signS (s:List UInt8):List UInt8:=
 match twos.find? (fun p=>decide (1<s.length) && (s.take 2 == p)) with
 | some p=>p
 | none=>match ones.find? (fun b=>s.take 1 == [b]) with
   | some b=>s.take 1
   | none=>[]
def tokS (s:List UInt8):Option (Int×List UInt8×Int):=
 match s with
 | []=>none
 | b::r=>if digitP' b then (if (s.takeWhile digitP').length≤3 then some (1,s.takeWhile digitP',valW (s.takeWhile digitP')) else none)
   else if lowerP b then (if (s.takeWhile wordP).length≤8 then some (2,s.takeWhile wordP,0) else none)
   else if letterP b then some (3,[b],0)
   else if signS s=[] then none else some (4,signS s,0)
def lexGo:Nat→List UInt8→Nat→List Tok→Int×Int×List Tok
 | 0,_,at_,_=>(2,(at_:Int),[])
 | _+1,[],at_,out=>(0,0,out++[((5,[],0,(at_:Int)):Tok)])
 | f+1,b::r,at_,out=>if blankP b then lexGo f r (at_+1) out else
   match tokS (b::r) with
   | none=>(2,(at_:Int),[])
   | some (k,w,n)=>lexGo f ((b::r).drop w.length) (at_+w.length) (out++[((k,w,n,(at_:Int)):Tok)])
def lexS (s:List UInt8):Int×Int×List Tok:=if 60000<s.length then (14,0,[]) else lexGo (s.length+1) s 0 []
theorem signS_len (s:List UInt8):(signS s).length≤2∧(signS s).length≤s.length∧s.take (signS s).length=signS s:=by
 unfold signS
 cases h:twos.find? (fun p=>decide (1<s.length) && (s.take 2 == p)) with
 | some p=>
   have h1:=List.find?_some h
   simp only [Bool.and_eq_true,decide_eq_true_eq,beq_iff_eq] at h1
   simp only []
   rw [←h1.2,List.length_take,Nat.min_eq_left (by omega)]
   exact ⟨by omega,by omega,rfl⟩
 | none=>
   simp only []
   cases h2:ones.find? (fun b=>s.take 1 == [b]) with
   | some b=>
     simp only [List.length_take]
     refine ⟨by omega,by omega,?_⟩
     cases s<;>simp
   | none=>simp
theorem tw_len {p:UInt8→Bool}:∀ (l:List UInt8),(l.takeWhile p).length≤l.length∧l.take (l.takeWhile p).length=l.takeWhile p
 | []=>by simp
 | a::l=>by
   rw [List.takeWhile_cons]
   cases hp:p a with
   | true=>have:=tw_len (p:=p) l;simp [this]
   | false=>simp
theorem valW_snoc (w:List UInt8) (b:UInt8):valW (w++[b])=10*valW w+((b.toNat:Int)-48):=by simp [valW,List.foldl_append]
theorem take_snoc (w:List UInt8) (n:Nat) (h:n<w.length):w.take (n+1)=w.take n++[w.getD n 0]:=by
 rw [List.take_add_one]
 simp [List.getD_eq_getElem?_getD,List.getElem?_eq_getElem h]
theorem wrap8 {n:Int} (h1:0≤n) (h2:n≤255):IntKind.wrap IntKind.u8 n=n:=by
 have e1:(2:Int) ^ IntKind.u8.bits=256:=by decide
 have e3:IntKind.u8.signed=false:=rfl
 simp only [IntKind.wrap,e1,e3,Bool.false_and,decide_eq_true_eq]
 simp
 omega
theorem qbu {b:UInt8} (h:digitP' b=true):48≤b.toNat∧b.toNat≤57:=by
 unfold digitP' at h
 simpa using h
theorem qfa:∀ (n:Nat) (w:List UInt8),w.length=n→(∀ b∈w,digitP' b=true)→0≤valW w∧valW w<10 ^ n:=by
 intro n
 induction n with
 | zero=>intro w hw _;cases w with
   | nil=>simp [valW]
   | cons=>simp at hw
 | succ n ih=>
   intro w hw hd
   have hne:w≠[]:=by intro h;rw [h] at hw;simp at hw
   obtain ⟨l,b,rfl⟩:∃ l b,w=l++[b]:=⟨w.dropLast,w.getLast hne,(List.dropLast_concat_getLast hne).symm⟩
   have h1:=ih l (by simpa using hw) fun b hb=>hd b (by simp [hb])
   have h2:=qbu (hd b (by simp))
   rw [valW_snoc]
   have h3:(10:Int) ^ (n+1)=10*10 ^ n:=by rw [Int.pow_succ];omega
   rw [h3]
   generalize (10:Int) ^ n=q at h1 ⊢
   omega
theorem qfb {p:UInt8→Bool}:∀ (l:List UInt8),∀ b∈l.takeWhile p,p b=true
 | [],b,h=>by simp at h
 | a::l,b,h=>by
   rw [List.takeWhile_cons] at h
   cases hp:p a with
   | false=>rw [hp] at h;simp at h
   | true=>
     rw [hp] at h
     simp only [if_true,List.mem_cons] at h
     rcases h with rfl | h
     ·exact hp
     ·exact qfb (p:=p) l b h
section
variable (s:List UInt8) (hs:s.length≤60000)
end
theorem tok_len {s:List UInt8} {k n:Int} {w:List UInt8} (h:tokS s=some (k,w,n)):0<w.length∧w.length≤s.length∧s.take w.length=w∧k≠0∧k≠5:=by
 cases s with
 | nil=>simp [tokS] at h
 | cons b r=>
   simp only [tokS] at h
   split at h
   ·rename_i hd
    split at h
    ·simp only [Option.some.injEq,Prod.mk.injEq] at h
     obtain ⟨rfl,rfl,rfl⟩:=h
     have h1:=tw_len (p:=digitP') (b::r)
     refine ⟨?_,h1.1,h1.2,by decide,by decide⟩
     rw [List.takeWhile_cons,hd];simp
    ·cases h
   ·split at h
    ·rename_i hd hl
     split at h
     ·simp only [Option.some.injEq,Prod.mk.injEq] at h
      obtain ⟨rfl,rfl,rfl⟩:=h
      have h1:=tw_len (p:=wordP) (b::r)
      refine ⟨?_,h1.1,h1.2,by decide,by decide⟩
      rw [List.takeWhile_cons,qbg hl];simp
     ·cases h
    ·split at h
     ·simp only [Option.some.injEq,Prod.mk.injEq] at h
      obtain ⟨rfl,rfl,rfl⟩:=h
      exact ⟨by simp,by simp,by simp,by decide,by decide⟩
     ·split at h
      ·cases h
      ·rename_i hne
       simp only [Option.some.injEq,Prod.mk.injEq] at h
       obtain ⟨rfl,rfl,rfl⟩:=h
       have h1:=signS_len (b::r)
       refine ⟨?_,h1.2.1,h1.2.2,by decide,by decide⟩
       cases hq:signS (b::r) with
       | nil=>exact absurd hq hne
       | cons=>simp
def tokOK (t:Tok):Prop:=(t.1=1→0≤t.2.2.1∧t.2.2.1≤999)∧(t.1=2→isWordP t.2.1=true)
theorem tokS_ok {s:List UInt8} {k n:Int} {w:List UInt8} (h:tokS s=some (k,w,n)) (x:Int):tokOK (k,w,n,x):=by
 cases s with
 | nil=>simp [tokS] at h
 | cons b r=>
   simp only [tokS] at h
   split at h
   ·rename_i hd
    split at h
    ·rename_i h3
     simp only [Option.some.injEq,Prod.mk.injEq] at h
     obtain ⟨rfl,rfl,rfl⟩:=h
     refine ⟨fun _=>?_,fun h=>(by cases h)⟩
     have:=qfa _ ((b::r).takeWhile digitP') rfl fun b hb=>qfb _ b hb
     have hl:((b::r).takeWhile digitP').length=0∨((b::r).takeWhile digitP').length=1∨((b::r).takeWhile digitP').length=2∨((b::r).takeWhile digitP').length=3:=by omega
     rcases hl with hl | hl | hl | hl<;>rw [hl] at this<;>simp at this ⊢<;>omega
    ·cases h
   ·split at h
    ·rename_i hd hl
     split at h
     ·rename_i h8
      simp only [Option.some.injEq,Prod.mk.injEq] at h
      obtain ⟨rfl,rfl,rfl⟩:=h
      refine ⟨fun h=>(by cases h),fun _=>?_⟩
      rw [List.takeWhile_cons,qbg hl] at h8 ⊢
      simp only [if_true,List.length_cons] at h8 ⊢
      simp only [isWordP,hl,Bool.true_and,Bool.and_eq_true,List.all_eq_true,decide_eq_true_eq]
      exact ⟨fun b hb=>qfb _ b hb,h8⟩
     ·cases h
    ·split at h
     ·simp only [Option.some.injEq,Prod.mk.injEq] at h
      obtain ⟨rfl,rfl,rfl⟩:=h
      exact ⟨fun h=>(by cases h),fun h=>(by cases h)⟩
     ·split at h
      ·cases h
      ·simp only [Option.some.injEq,Prod.mk.injEq] at h
       obtain ⟨rfl,rfl,rfl⟩:=h
       exact ⟨fun h=>(by cases h),fun h=>(by cases h)⟩
def toksOK (l:List Tok):Prop:=∃ (q:List Tok) (x:Int),l=q++[(5,[],0,x)]∧∀ t∈q,t.1≠5∧tokOK t
theorem lexGo_ok:∀ (f:Nat) (s:List UInt8) (a:Nat) (out:List Tok),(∀ t∈out,t.1≠5∧tokOK t)→∀ (e x:Int) (l:List Tok),lexGo f s a out=(e,x,l)→e=0→toksOK l∧l.length≤out.length+s.length+1
 | 0,s,a,out,ho,e,x,l,h,he=>by
   simp only [lexGo,Prod.mk.injEq] at h
   omega
 | f+1,[],a,out,ho,e,x,l,h,he=>by
   simp only [lexGo,Prod.mk.injEq] at h
   obtain ⟨_,_,rfl⟩:=h
   exact ⟨⟨out,a,rfl,ho⟩,by simp⟩
 | f+1,b::r,a,out,ho,e,x,l,h,he=>by
   simp only [lexGo] at h
   split at h
   ·have:=lexGo_ok f r (a+1) out ho e x l h he
    exact ⟨this.1,by simp;omega⟩
   ·split at h
    ·simp only [Prod.mk.injEq] at h
     omega
    ·rename_i k w n ht
     have h1:=tok_len ht
     have:=lexGo_ok f ((b::r).drop w.length) (a+w.length) (out++[(k,w,n,(a:Int))]) (fun t ht'=>by
      rcases List.mem_append.1 ht' with h2 | h2
      ·exact ho t h2
      ·simp at h2;subst h2;exact ⟨h1.2.2.2.2,tokS_ok ht _⟩) e x l h he
     refine ⟨this.1,?_⟩
     have h2:=this.2
     simp only [List.length_append,List.length_cons,List.length_nil,List.length_drop] at h2 ⊢
     omega
theorem lexS_ok {s:List UInt8} {x:Int} {l:List Tok} (h:lexS s=(0,x,l)):toksOK l∧l.length≤s.length+1∧s.length≤60000:=by
 unfold lexS at h
 split at h
 ·simp at h
 ·have:=lexGo_ok _ s 0 [] (by simp) 0 x l h rfl
  exact ⟨this.1,by simpa using this.2,by omega⟩
abbrev Trm:=Int×Int×List UInt8×List UInt8
def opn (k:Int):Int:=
 if k=1∨k=2∨k=3 then 0 else if k=4∨k=8∨k=11∨k=12 then 1 else if k=5∨k=6∨k=7∨k=9∨k=10 then 2 else -1
theorem opn_cases (k:Int):opn k=0∨opn k=1∨opn k=2∨opn k = -1:=by
 unfold opn
 split
 ·simp
 ·split
  ·simp
  ·split<;>simp
section
variable {X:Type} (E:List X→Bool)
def badP (p:Int×List X) (d:Int):Bool:=
 decide (opn p.1<0) || decide (d<opn p.1) || (decide (p.1=3) && !E p.2) || (!decide (p.1=3) && decide (0<p.2.length))
def rGo:List (Int×List X)→Int→Option Int
 | [],d=>some d
 | p::r,d=>if badP E p d then none else rGo r (d+1-opn p.1)
inductive Fm (X:Type) where
 | nul (p:Int×List X)
 | un (p:Int×List X) (a:Fm X)
 | bi (p:Int×List X) (a b:Fm X)
def Fm.flat:Fm X→List (Int×List X)
 | .nul p=>[p]
 | .un p a=>a.flat++[p]
 | .bi p a b=>a.flat++b.flat++[p]
def Fm.size:Fm X→Nat
 | .nul _=>1
 | .un _ a=>a.size+1
 | .bi _ a b=>a.size+b.size+1
def Fm.wf:Fm X→Prop
 | .nul p=>opn p.1=0∧(p.1=3→E p.2=true)∧(p.1≠3→p.2=[])
 | .un p a=>opn p.1=1∧p.2=[]∧a.wf
 | .bi p a b=>opn p.1=2∧p.2=[]∧a.wf∧b.wf
theorem Fm.flat_len (t:Fm X):t.flat.length=t.size:=by
 induction t with
 | nul=>rfl
 | un p a ih=>simp [Fm.flat,Fm.size,ih]
 | bi p a b iha ihb=>simp [Fm.flat,Fm.size,iha,ihb];omega
theorem ne3 {k n:Int} (h:opn k=n) (hn:n≠0):k≠3:=by
 rintro rfl
 exact hn (by rw [←h];rfl)
theorem rGo_flat (t:Fm X) (ht:t.wf E):∀ (r:List (Int×List X)) (d:Int),0≤d→rGo E (t.flat++r) d=rGo E r (d+1):=by
 induction t with
 | nul p=>
   intro r d hd
   obtain ⟨h1,h2,h3⟩:=ht
   have hb:badP E p d=false:=by
    unfold badP
    rw [h1]
    by_cases h:p.1=3
    ·simp [h,h2 h];omega
    ·simp [h,h3 h];omega
   simp only [Fm.flat,List.cons_append,List.nil_append,rGo,hb,h1]
   simp
 | un p a ih=>
   intro r d hd
   obtain ⟨h1,h2,h3⟩:=ht
   have hb:badP E p (d+1)=false:=by
    unfold badP
    rw [h1,h2]
    have:=ne3 h1 (by omega)
    simp [this];omega
   simp only [Fm.flat,List.append_assoc]
   rw [ih h3 _ d hd]
   simp only [List.cons_append,List.nil_append,rGo,hb,h1]
   simp
 | bi p a b iha ihb=>
   intro r d hd
   obtain ⟨h1,h2,h3,h4⟩:=ht
   have hb:badP E p (d+1+1)=false:=by
    unfold badP
    rw [h1,h2]
    have:=ne3 h1 (by omega)
    simp [this];omega
   simp only [Fm.flat,List.append_assoc]
   rw [iha h3 _ d hd,ihb h4 _ (d+1) (by omega)]
   simp only [List.cons_append,List.nil_append,rGo,hb,h1]
   simp;congr 1;omega
def flats:List (Fm X)→List (Int×List X)
 | []=>[]
 | t::ts=>flats ts++t.flat
def wfs:List (Fm X)→Prop
 | []=>True
 | t::ts=>t.wf E∧wfs ts
theorem qcz:∀ (l:List (Int×List X)) (ts:List (Fm X)) (n:Int),wfs E ts→rGo E l ts.length=some n→∃ us:List (Fm X),wfs E us∧(us.length:Int)=n∧flats us=flats ts++l
 | [],ts,n,h,hr=>by
  simp only [rGo,Option.some.injEq] at hr
  exact ⟨ts,h,hr,by simp⟩
 | p::r,ts,n,h,hr=>by
   simp only [rGo] at hr
   cases hb:badP E p ts.length with
   | true=>rw [hb] at hr;simp at hr
   | false=>
     rw [hb] at hr
     simp only [Bool.false_eq_true,if_false] at hr
     unfold badP at hb
     simp only [Bool.or_eq_false_iff,decide_eq_false_iff_not,Bool.and_eq_false_iff,Bool.not_eq_false'] at hb
     obtain ⟨⟨⟨h1,h2⟩,h3⟩,h4⟩:=hb
     rcases opn_cases p.1 with ho | ho | ho | ho
     ·have hw:(Fm.nul p).wf E:=⟨ho,fun h=>by rcases h3 with h3 | h3;exact absurd h h3;exact h3,fun h=>by
       rcases h4 with h4 | h4
       ·simp at h4;exact absurd h4 h
       ·cases hp:p.2 with
        | nil=>rfl
        | cons a b=>rw [hp] at h4;simp at h4⟩
      rw [ho] at hr
      obtain ⟨us,e1,e2,e3⟩:=qcz r (.nul p::ts) n ⟨hw,h⟩ (by rw [←hr];congr 1<;>simp)
      exact ⟨us,e1,e2,by rw [e3];simp [flats,Fm.flat]⟩
     ·have hp2:p.2=[]:=by
       have:=ne3 ho (by omega)
       rcases h4 with h4 | h4
       ·simp at h4;exact absurd h4 this
       ·cases hp:p.2 with
        | nil=>rfl
        | cons a b=>rw [hp] at h4;simp at h4
      rw [ho] at hr h2
      cases ts with
      | nil=>simp at h2
      | cons t ts=>
        obtain ⟨us,e1,e2,e3⟩:=qcz r (.un p t::ts) n ⟨⟨ho,hp2,h.1⟩,h.2⟩ (by rw [←hr];congr 1<;>simp)
        exact ⟨us,e1,e2,by rw [e3];simp [flats,Fm.flat]⟩
     ·have hp2:p.2=[]:=by
       have:=ne3 ho (by omega)
       rcases h4 with h4 | h4
       ·simp at h4;exact absurd h4 this
       ·cases hp:p.2 with
        | nil=>rfl
        | cons a b=>rw [hp] at h4;simp at h4
      rw [ho] at hr h2
      cases ts with
      | nil=>simp at h2
      | cons t ts=>
        cases ts with
        | nil=>simp at h2
        | cons u ts=>
          obtain ⟨us,e1,e2,e3⟩:=qcz r (.bi p u t::ts) n ⟨⟨ho,hp2,h.2.1,h.1⟩,h.2.2⟩ (by rw [←hr];congr 1<;>(simp<;>omega))
          exact ⟨us,e1,e2,by rw [e3];simp [flats,Fm.flat]⟩
     ·omega
def rightF (f:List (Int×List X)):Bool:=(match rGo E f 0 with
 | some d=>decide (d=1)
 | none=>false) && decide (f.length≤60)
theorem rightF_tree {f:List (Int×List X)} (h:rightF E f=true):∃ t:Fm X,t.wf E∧f=t.flat∧t.size≤60:=by
 unfold rightF at h
 simp only [Bool.and_eq_true,decide_eq_true_eq] at h
 obtain ⟨h1,h2⟩:=h
 cases hr:rGo E f 0 with
 | none=>rw [hr] at h1;cases h1
 | some d=>
   rw [hr] at h1
   simp at h1
   subst h1
   obtain ⟨us,e1,e2,e3⟩:=qcz E f [] 1 trivial hr
   cases us with
   | nil=>simp at e2
   | cons t ts=>
     cases ts with
     | cons=>simp at e2;omega
     | nil=>
       simp [flats] at e3
       exact ⟨t,e1.1,e3.symm,by rw [←Fm.flat_len,e3];exact h2⟩
theorem tree_rightF {t:Fm X} (ht:t.wf E) (hs:t.size≤60):rightF E t.flat=true:=by
 unfold rightF
 have:=rGo_flat E t ht [] 0 (by omega)
 rw [List.append_nil] at this
 rw [this]
 simp [rGo,Fm.flat_len,hs]
def Fm.kids:Fm X→Nat→List (List Int)
 | .nul _,_=>[[]]
 | .un _ a,b=>a.kids b++[[((b+a.size-1:Nat):Int)]]
 | .bi _ a c,b=>a.kids b++c.kids (b+a.size)++[[((b+a.size-1:Nat):Int),((b+a.size+c.size-1:Nat):Int)]]
theorem Fm.kids_len (t:Fm X):∀ b,(t.kids b).length=t.size:=by
 induction t with
 | nul=>intro b;rfl
 | un p a ih=>intro b;simp [Fm.kids,Fm.size,ih]
 | bi p a c iha ihc=>intro b;simp [Fm.kids,Fm.size,iha,ihc];omega
end
theorem opn_prog (k:Int):M82 k=some (opn k):=by
 show T82 Ops.std k some=_
 unfold T82 opn
 simp only [qao,qaa]
 (repeat' split)<;>first | rfl | (exfalso;omega)
abbrev Prt:=Int×List Trm
def smallF (f:List Prt):Prop:=f.length<900000∧∀ p∈f,p.2.length<900000
theorem smallF.at {f:List Prt} (h:smallF f) {i:Nat} (hi:i<f.length):(f.getD i (Ty.dflt ty78)).2.length<900000:=by
 refine h.2 _ ?_
 rw [List.getD_eq_getElem?_getD,List.getElem?_eq_getElem hi]
 exact List.getElem_mem _
def fin60 (f:List Prt) (o:Option Int):Bool:=match o with
 | some d=>decide (d=1) && decide (f.length≤60)
 | none=>false
theorem rightF_fin (E:List Trm→Bool) (f:List Prt):rightF E f=fin60 f (rGo E f 0):=by
 unfold rightF fin60
 cases rGo E f 0<;>rfl
theorem opn_le (k:Int):-1≤opn k∧opn k≤2:=by rcases opn_cases k with h | h | h | h<;>rw [h]<;>decide
section
variable (E:List Trm→Bool) (f:List Prt) (hf:smallF f)
theorem qcg (hE:∀ p∈f,M22 p.2=some (E p.2)) (hf:smallF f):∀ (t i n:Nat) (d:Int),i+t=f.length→t<n→0≤d→d≤i→
  R48 M82 M22 f n (.l0 d (f.length:Nat) i)=some (fin60 f (rGo E (f.drop i) d))
 | t,i,0,d,hi,hn,h0,hd=>by omega
 | 0,i,n+1,d,hi,hn,h0,hd=>by
   show T48 Ops.std _ _ f _ some _=_
   unfold T48
   simp only [qak,qao,qbp,qaa]
   rw [if_neg (by omega),List.drop_eq_nil_of_le (by omega)]
   simp only [rGo,fin60]
   by_cases h1:d=1
   ·rw [if_pos h1];simp [h1];omega
   ·rw [if_neg h1];simp [h1]
 | t+1,i,n+1,d,hi,hn,h0,hd=>by
   have hlt:i<f.length:=by omega
   have ih:=fun d=>qcg hE hf t (i+1) n d (by omega) (by omega)
   have hl:=hf.1
   show T48 Ops.std _ _ f _ some _=_
   unfold T48
   have hs:=hf.at hlt
   have hmem:f.getD i (Ty.dflt ty78)∈f:=by
    rw [List.getD_eq_getElem?_getD,List.getElem?_eq_getElem hlt]
    exact List.getElem_mem _
   rw [qbf (Ty.dflt ty78) hlt]
   simp only [qak,qao,qbp,qam,qaa,qa7,qaf,rGo,badP]
   generalize f.getD i (Ty.dflt ty78)=p at hs hmem ⊢
   obtain ⟨hb1,hb2⟩:=opn_le p.1
   rw [if_pos (by omega),if_pos (by omega),opn_prog,ob_s]
   by_cases h1:opn p.1<0
   ·rw [if_pos h1];simp [h1,fin60]
   ·rw [if_neg h1]
    by_cases h2:d<opn p.1
    ·rw [if_pos h2];simp [h1,h2,fin60]
    ·rw [if_neg h2]
     have hw:IntKind.wrap IntKind.i64 (d+IntKind.wrap IntKind.i64 (1-opn p.1))=d+1-opn p.1:=by
      rw [wrap64 (n:=1-opn p.1) (by omega) (by omega),wrap64 (by omega) (by omega)];omega
     have hw2:IntKind.wrap IntKind.i64 ((i:Int)+1)=((i+1:Nat):Int):=qah (by omega)
     rw [hw,hw2]
     have hgo:=ih (d+1-opn p.1) (by omega) (by omega)
     by_cases h3:p.1=3
     ·rw [if_pos h3,hE _ hmem,ob_s]
      cases he:E p.2 with
      | false=>simp [h1,h2,h3,he,fin60]
      | true=>
        simp only [Bool.not_true,cond_false]
        rw [if_neg (by simp [h3])]
        refine hgo.trans ?_
        have h1':=h1
        have h2':=h2
        rw [h3] at h1' h2'
        simp [h3,he,h1',h2']
     ·rw [if_neg h3,if_pos (by simp [h3])]
      by_cases h4:(0:Int)<(p.2.length:Int)
      ·rw [if_pos h4]
       have:0<p.2.length:=by omega
       simp [h1,h2,h3,this,fin60]
      ·rw [if_neg h4]
       have:¬ 0<p.2.length:=by omega
       refine hgo.trans ?_
       simp [h1,h2,h3,this]
theorem right_prog (hE:∀ p∈f,M22 p.2=some (E p.2)) (hf:smallF f):M48 f=some (rightF E f):=by
 show T48 Ops.std M82 M22 f (R48 M82 M22 f 1000000) some none=_
 unfold T48
 have:=qcg E f hE hf f.length 0 1000000 0 (by omega) (by have:=hf.1;omega) (by omega) (by omega)
 rw [rightF_fin]
 exact this
end
def opE (k:Int):Int:=if k<1∨16<k then -1 else if k≤3 then 0 else if k≤5 then 1 else 2
theorem qc0 (k:Int):M50 k=some (opE k):=by
 show T50 Ops.std k some=_
 unfold T50 opE
 simp only [qao,qbp,qak,qaa]
 (repeat' split)<;>first | rfl | (exfalso;omega)
def mayT (t:Trm):Bool:=
 if t.1=1 then decide (0≤t.2.1) && decide (t.2.1≤999) && (t.2.2.1 == []) && (t.2.2.2 == [])
 else if t.1=2 then decide (t.2.1=0) && isWordP t.2.2.1 && (t.2.2.2 == [])
 else if t.1=3 then decide (t.2.1=0) && isWordP t.2.2.1 && isWordP t.2.2.2
 else decide (0<opE t.1) && decide (t.2.1=0) && (t.2.2.1 == []) && (t.2.2.2 == [])
theorem may_prog (a b:Int) (c d:List UInt8):M58 a b c d=some (mayT (a,b,c,d)):=by
 show T58 Ops.std M95 M50 a b c d some=_
 unfold T58 mayT
 simp only [qao,qbp,qak,qaa,isWord_prog,qc0,ob_s]
 by_cases h1:a=1
 ·simp only [h1,if_true]
  by_cases h2:0≤b<;>by_cases h3:b≤999<;>cases hc:(c == ([]:List UInt8))<;>simp [h2,h3,hc]
 ·simp only [h1,if_false]
  by_cases h2:a=2
  ·simp only [h2,if_true]
   by_cases h3:b=0<;>cases hc:isWordP c<;>simp [h3,hc]
  ·simp only [h2,if_false]
   by_cases h3:a=3
   ·simp only [h3,if_true]
    by_cases h4:b=0<;>cases hc:isWordP c<;>simp [h4,hc]
   ·simp only [h3,if_false]
    by_cases h4:0<opE a<;>by_cases h5:b=0<;>cases hc:(c == ([]:List UInt8))<;>simp [h4,h5,hc]
def eGo:List Trm→Int→Option Int
 | [],d=>some d
 | p::r,d=>if !mayT p || decide (d<opE p.1) then none else eGo r (d+1-opE p.1)
def fin30 (f:List Trm) (o:Option Int):Bool:=match o with
 | some d=>decide (d=1) && decide (f.length≤30)
 | none=>false
def rightE (e:List Trm):Bool:=fin30 e (eGo e 0)
theorem opE_le (k:Int):-1≤opE k∧opE k≤2:=by unfold opE;(repeat' split)<;>omega
theorem mayT_op {t:Trm} (h:mayT t=true):0≤opE t.1:=by
 unfold mayT at h
 unfold opE at *
 (repeat' split at h)<;>(repeat' split)<;>simp_all<;>omega
theorem qb7 (f:List Trm) (hf:f.length<900000):∀ (t i n:Nat) (d:Int),i+t=f.length→t<n→0≤d→d≤i→
  R22 M50 M58 f n (.l0 d (f.length:Nat) i)=some (fin30 f (eGo (f.drop i) d))
 | t,i,0,d,hi,hn,h0,hd=>by omega
 | 0,i,n+1,d,hi,hn,h0,hd=>by
   show T22 Ops.std _ _ f _ some _=_
   unfold T22
   simp only [qak,qao,qbp,qaa]
   rw [if_neg (by omega),List.drop_eq_nil_of_le (by omega)]
   simp only [eGo,fin30]
   by_cases h1:d=1
   ·rw [if_pos h1];simp [h1];omega
   ·rw [if_neg h1];simp [h1]
 | t+1,i,n+1,d,hi,hn,h0,hd=>by
   have hlt:i<f.length:=by omega
   have ih:=fun d=>qb7 f hf t (i+1) n d (by omega) (by omega)
   show T22 Ops.std _ _ f _ some _=_
   unfold T22
   rw [qbf (Ty.dflt ty56) hlt]
   simp only [qak,qao,qbp,qam,qaa,qa7,qaf,eGo]
   generalize f.getD i (Ty.dflt ty56)=p
   obtain ⟨hb1,hb2⟩:=opE_le p.1
   rw [if_pos (by omega),if_pos (by omega),qc0,ob_s,may_prog,ob_s]
   have hp:mayT (p.1,p.2.1,p.2.2.1,p.2.2.2)=mayT p:=rfl
   rw [hp]
   cases hm:mayT p with
   | false=>simp [fin30]
   | true=>
     have:=mayT_op hm
     simp only [Bool.not_true,cond_false,Bool.false_or]
     by_cases h2:d<opE p.1
     ·rw [if_pos h2];simp [h2,fin30]
     ·rw [if_neg h2]
      have hw:IntKind.wrap IntKind.i64 (d+IntKind.wrap IntKind.i64 (1-opE p.1))=d+1-opE p.1:=by
       rw [wrap64 (n:=1-opE p.1) (by omega) (by omega),wrap64 (by omega) (by omega)];omega
      rw [hw,show IntKind.wrap IntKind.i64 ((i:Int)+1)=((i+1:Nat):Int) from qah (by omega),ih _ (by omega) (by omega)]
      simp [h2]
theorem qep (f:List Trm) (hf:f.length<900000):M22 f=some (rightE f):=by
 show T22 Ops.std M50 M58 f (R22 M50 M58 f 1000000) some none=_
 unfold T22
 exact qb7 f hf f.length 0 1000000 0 (by omega) (by omega) (by omega) (by omega)
def smallE (f:List Trm):Prop:=f.length<900000∧∀ p∈f,p.2.2.1.length<900000∧p.2.2.2.length<900000
theorem smallE.at {f:List Trm} (h:smallE f) {i:Nat} (hi:i<f.length):(f.getD i (Ty.dflt ty56)).2.2.1.length<900000∧(f.getD i (Ty.dflt ty56)).2.2.2.length<900000:=by
 refine h.2 _ ?_
 rw [List.getD_eq_getElem?_getD,List.getElem?_eq_getElem hi]
 exact List.getElem_mem _
theorem qd8 {l:List Tok} (h:toksOK l):0<l.length:=by
 obtain ⟨q,x,rfl,_⟩:=h;simp
theorem qcs {l:List Tok} (h:toksOK l) {i:Nat} (hi:i<l.length) (d:Tok):(i+1<l.length∨(l.getD i d).1=5)∧tokOK (l.getD i d)∧((l.getD i d).1=5→i+1=l.length):=by
 obtain ⟨q,x,rfl,hq⟩:=h
 simp only [List.length_append,List.length_cons,List.length_nil] at hi ⊢
 by_cases hlt:i<q.length
 ·have hg:(q++[(5,[],0,x)]).getD i d=q[i]:=by
   rw [List.getD_eq_getElem?_getD,List.getElem?_append_left hlt,List.getElem?_eq_getElem hlt];rfl
  rw [hg]
  have:=hq _ (List.getElem_mem hlt)
  exact ⟨.inl (by omega),this.2,fun h=>absurd h this.1⟩
 ·have hi':i=q.length:=by omega
  subst hi'
  rw [qat]
  exact ⟨.inr rfl,⟨fun h=>(by cases h),fun h=>(by cases h)⟩,fun _=>rfl⟩
theorem qas {l:List Tok} (h:toksOK l) {i:Nat} (hi:i<l.length) (d:Tok) (hk:(l.getD i d).1≠5):i+1<l.length:=by
 rcases (qcs h hi d).1 with h1 | h1
 ·exact h1
 ·exact absurd h1 hk
def goodE (e:List Trm):Prop:=∀ (r:List Trm) (d:Int),0≤d→eGo (e++r) d=eGo r (d+1)
theorem goodE.nul {t:Trm} (h:mayT t=true) (ho:opE t.1=0):goodE [t]:=fun r d hd=>by
 simp only [List.cons_append,List.nil_append,eGo,h,ho]
 rw [if_neg (by simp;omega)]
 congr 1;omega
theorem goodE.un {e:List Trm} {t:Trm} (he:goodE e) (h:mayT t=true) (ho:opE t.1=1):goodE (e++[t]):=fun r d hd=>by
 rw [List.append_assoc,he _ d hd]
 simp only [List.cons_append,List.nil_append,eGo,h,ho]
 rw [if_neg (by simp;omega)]
 congr 1;omega
theorem goodE.bi {e e2:List Trm} {t:Trm} (he:goodE e) (he2:goodE e2) (h:mayT t=true) (ho:opE t.1=2):goodE (e++e2++[t]):=fun r d hd=>by
 rw [List.append_assoc,List.append_assoc,he _ d hd,he2 _ (d+1) (by omega)]
 simp only [List.cons_append,List.nil_append,eGo,h,ho]
 rw [if_neg (by simp;omega)]
 congr 1;omega
theorem goodE.right {e:List Trm} (h:goodE e) (hl:e.length≤30):rightE e=true:=by
 have:=h [] 0 (by omega)
 rw [List.append_nil] at this
 unfold rightE
 rw [this]
 simp [eGo,fin30,hl]
theorem may_op {k:Int} (h:4≤k) (h2:k≤16):mayT (k,0,[],[])=true:=by
 have:0<opE k:=by unfold opE;(repeat' split)<;>omega
 unfold mayT
 rw [if_neg (by show ¬ k=1;omega),if_neg (by show ¬ k=2;omega),if_neg (by show ¬ k=3;omega)]
 simp [this]
abbrev tkD (l:List Tok) (a:Nat):Tok:=l.getD a (Ty.dflt ty85)
def isS (l:List Tok) (a:Nat) (w:List UInt8):Bool:=decide ((tkD l a).1=4) && ((tkD l a).2.1 == w)
def sgW (w:List UInt8):Int×Nat:=
 if w=[42] then (6,5) else if w=[43] then (7,4) else if w=[45] then (8,4) else if w=[60] then (9,3) else if w=[60,61] then (10,3) else if w=[62] then (11,3) else if w=[62,61] then (12,3) else if w=[61,61] then (13,3) else if w=[33,61] then (14,3) else if w=[38,38] then (15,2) else if w=[124,124] then (16,1) else (0,0)
def sgE (l:List Tok) (a:Nat):Int×Nat:=if (tkD l a).1=4 then sgW (tkD l a).2.1 else (0,0)
theorem sgW_cases (w:List UInt8):sgW w=(0,0)∨(6≤(sgW w).1∧(sgW w).1≤16):=by
 unfold sgW
 (repeat' split)<;>decide
theorem sgE_op {l:List Tok} {a n:Nat} (h:(sgE l a).2=n) (hn:1≤n):6≤(sgE l a).1∧(sgE l a).1≤16∧(tkD l a).1=4:=by
 unfold sgE at h ⊢
 by_cases hk:(tkD l a).1=4
 ·rw [if_pos hk] at h ⊢
  rcases sgW_cases (tkD l a).2.1 with hc | hc
  ·rw [hc] at h;have h:0=n:=h;omega
  ·exact ⟨hc.1,hc.2,hk⟩
 ·rw [if_neg hk] at h;have h:0=n:=h;omega
theorem mayN {n:Int} (h:0≤n∧n≤999):mayT (1,n,[],[])=true:=by simp [mayT,h]
theorem mayV {w:List UInt8} (h:isWordP w=true):mayT (2,0,w,[])=true:=by simp [mayT,h]
theorem mayA {w v:List UInt8} (h:isWordP w=true) (h2:isWordP v=true):mayT (3,0,w,v)=true:=by simp [mayT,h,h2]
inductive PS where
 | lv (n a:Nat)
 | lp (n b:Nat) (e:List Trm)
 | un (a:Nat)
inductive PR where
 | ok (b:Nat) (e:List Trm)
 | bad (k:Nat)
def onOk (r:Option PR) (f:Nat→List Trm→Option PR):Option PR:=match r with
 | some (.ok b e)=>f b e
 | some (.bad k)=>some (.bad k)
 | none=>none
def go (l:List Tok):Nat→PS→Option PR
 | 0,_=>none
 | d+1,.lv n a=>if n=6 then go l d (.un a) else onOk (go l d (.lv (n+1) a)) fun b e=>go l d (.lp n b e)
 | d+1,.lp n b e=>if (sgE l b).2=n then onOk (go l d (.lv (n+1) (b+1))) fun c e2=>if n=3 then some (.ok c (e++e2++[((sgE l b).1,0,[],[])])) else go l d (.lp n c (e++e2++[((sgE l b).1,0,[],[])])) else some (.ok b e)
 | d+1,.un a=>
   if isS l a [33] then onOk (go l d (.un (a+1))) fun b e=>some (.ok b (e++[(4,0,[],[])]))
   else if isS l a [45] then onOk (go l d (.un (a+1))) fun b e=>some (.ok b (e++[(5,0,[],[])]))
   else if (tkD l a).1=1 then some (.ok (a+1) [(1,(tkD l a).2.2.1,[],[])])
   else if (tkD l a).1=2 then if isS l (a+1) [64] then if (tkD l (a+2)).1=2 then some (.ok (a+3) [(3,0,(tkD l a).2.1,(tkD l (a+2)).2.1)]) else some (.bad (a+2)) else some (.ok (a+1) [(2,0,(tkD l a).2.1,[])])
   else if isS l a [40] then onOk (go l d (.lv 1 (a+1))) fun b e=>if isS l b [41] then some (.ok (b+1) e) else some (.bad b)
   else some (.bad a)
def PE (l:List Tok) (s:PS) (r:PR):Prop:=∃ d0,∀ d,d0≤d→go l d s=some r
theorem PE.det {l:List Tok} {s:PS} {r r':PR} (h:PE l s r) (h':PE l s r'):r=r':=by
 obtain ⟨d,h⟩:=h
 obtain ⟨d',h'⟩:=h'
 have h1:=h (d+d') (by omega)
 have h2:=h' (d+d') (by omega)
 rw [h1] at h2
 exact Option.some.inj h2
theorem PE.run {l:List Tok} {s:PS} {r:PR} (h:PE l s r):∃ d,go l d s=some r:=by
 obtain ⟨d,h⟩:=h
 exact ⟨d,h d (Nat.le_refl _)⟩
section
variable {l:List Tok}
theorem pe1 {s:PS} {r:PR} (h:∀ d,go l (d+1) s=some r):PE l s r:=⟨1,fun d hd=>by
 obtain ⟨g,rfl⟩:∃ g,d=g+1:=⟨d-1,by omega⟩
 exact h g⟩
theorem pe2 {s s1:PS} {r r1:PR} (h1:PE l s1 r1) (h:∀ d,go l d s1=some r1→go l (d+1) s=some r):PE l s r:=by
 obtain ⟨d0,h1⟩:=h1
 exact ⟨d0+1,fun d hd=>by
  obtain ⟨g,rfl⟩:∃ g,d=g+1:=⟨d-1,by omega⟩
  exact h g (h1 g (by omega))⟩
theorem pe3 {s s1 s2:PS} {r r1 r2:PR} (h1:PE l s1 r1) (h2:PE l s2 r2) (h:∀ d,go l d s1=some r1→go l d s2=some r2→go l (d+1) s=some r):PE l s r:=by
 obtain ⟨d1,h1⟩:=h1
 obtain ⟨d2,h2⟩:=h2
 exact ⟨d1+d2+1,fun d hd=>by
  obtain ⟨g,rfl⟩:∃ g,d=g+1:=⟨d-1,by omega⟩
  exact h g (h1 g (by omega)) (h2 g (by omega))⟩
theorem pe_six {a:Nat} {r:PR} (h:PE l (.un a) r):PE l (.lv 6 a) r:=pe2 h fun d h=>by rw [go,if_pos rfl,h]
theorem pe_bad {n a k:Nat} (hn:n≠6) (h:PE l (.lv (n+1) a) (.bad k)):PE l (.lv n a) (.bad k):=pe2 h fun d h=>by rw [go,if_neg hn,h];rfl
theorem pe_lv {n a b:Nat} {e:List Trm} {r:PR} (hn:n≠6) (h:PE l (.lv (n+1) a) (.ok b e)) (h2:PE l (.lp n b e) r):PE l (.lv n a) r:=pe3 h h2 fun d h h2=>by rw [go,if_neg hn,h];exact h2
theorem pe_stop {n b:Nat} {e:List Trm} (h:(sgE l b).2≠n):PE l (.lp n b e) (.ok b e):=pe1 fun d=>by rw [go,if_neg h]
theorem pe_lpbad {n b k:Nat} {e:List Trm} (hs:(sgE l b).2=n) (h:PE l (.lv (n+1) (b+1)) (.bad k)):PE l (.lp n b e) (.bad k):=pe2 h fun d h=>by rw [go,if_pos hs,h];rfl
theorem pe_three {b c:Nat} {e e2:List Trm} (hs:(sgE l b).2=3) (h:PE l (.lv 4 (b+1)) (.ok c e2)):PE l (.lp 3 b e) (.ok c (e++e2++[((sgE l b).1,0,[],[])])):=pe2 h fun d h=>by rw [go,if_pos hs,h];rfl
theorem pe_more {n b c:Nat} {e e2:List Trm} {r:PR} (hn:n≠3) (hs:(sgE l b).2=n) (h:PE l (.lv (n+1) (b+1)) (.ok c e2)) (h2:PE l (.lp n c (e++e2++[((sgE l b).1,0,[],[])])) r):PE l (.lp n b e) r:=pe3 h h2 fun d h h2=>by
 rw [go,if_pos hs,h]
 show (if n=3 then _ else _)=_
 rw [if_neg hn,h2]
theorem pe_not {a b:Nat} {e:List Trm} (hs:isS l a [33]=true) (h:PE l (.un (a+1)) (.ok b e)):PE l (.un a) (.ok b (e++[(4,0,[],[])])):=pe2 h fun d h=>by rw [go,if_pos hs,h];rfl
theorem pe_notb {a k:Nat} (hs:isS l a [33]=true) (h:PE l (.un (a+1)) (.bad k)):PE l (.un a) (.bad k):=pe2 h fun d h=>by rw [go,if_pos hs,h];rfl
theorem qc1 {a:Nat} {w v:List UInt8} (h:isS l a w=true) (hv:w≠v):¬ isS l a v=true:=fun h2=>by
 unfold isS at h h2
 simp only [Bool.and_eq_true,decide_eq_true_eq,beq_iff_eq] at h h2
 exact hv (h.2.symm.trans h2.2)
theorem qc2 {a:Nat} {w:List UInt8} (h:(tkD l a).1≠4):¬ isS l a w=true:=fun h2=>by
 unfold isS at h2
 simp only [Bool.and_eq_true,decide_eq_true_eq] at h2
 exact h h2.1
theorem qch {a:Nat} {w:List UInt8} (h:isS l a w=true):(tkD l a).1=4:=by
 unfold isS at h
 simp only [Bool.and_eq_true,decide_eq_true_eq] at h
 exact h.1
theorem pe_neg {a b:Nat} {e:List Trm} (hs:isS l a [45]=true) (h:PE l (.un (a+1)) (.ok b e)):PE l (.un a) (.ok b (e++[(5,0,[],[])])):=pe2 h fun d h=>by rw [go,if_neg (qc1 hs (by decide)),if_pos hs,h];rfl
theorem pe_negb {a k:Nat} (hs:isS l a [45]=true) (h:PE l (.un (a+1)) (.bad k)):PE l (.un a) (.bad k):=pe2 h fun d h=>by rw [go,if_neg (qc1 hs (by decide)),if_pos hs,h];rfl
theorem pe_num {a:Nat} (hk:(tkD l a).1=1):PE l (.un a) (.ok (a+1) [(1,(tkD l a).2.2.1,[],[])]):=pe1 fun d=>by
 rw [go,if_neg (qc2 (by rw [hk];decide)),if_neg (qc2 (by rw [hk];decide)),if_pos hk]
theorem pe_word {a:Nat} (hk:(tkD l a).1=2):PE l (.un a) (if isS l (a+1) [64] then if (tkD l (a+2)).1=2 then .ok (a+3) [(3,0,(tkD l a).2.1,(tkD l (a+2)).2.1)] else .bad (a+2) else .ok (a+1) [(2,0,(tkD l a).2.1,[])]):=pe1 fun d=>by
 rw [go,if_neg (qc2 (by rw [hk];decide)),if_neg (qc2 (by rw [hk];decide)),if_neg (by rw [hk];decide),if_pos hk]
 (repeat' split)<;>rfl
theorem pe_brab {a k:Nat} (hs:isS l a [40]=true) (h:PE l (.lv 1 (a+1)) (.bad k)):PE l (.un a) (.bad k):=pe2 h fun d h=>by
 rw [go,if_neg (qc1 hs (by decide)),if_neg (qc1 hs (by decide)),if_neg (by rw [qch hs];decide),if_neg (by rw [qch hs];decide),if_pos hs,h];rfl
theorem pe_bra {a b:Nat} {e:List Trm} (hs:isS l a [40]=true) (h:PE l (.lv 1 (a+1)) (.ok b e)):PE l (.un a) (if isS l b [41] then .ok (b+1) e else .bad b):=pe2 h fun d h=>by
 rw [go,if_neg (qc1 hs (by decide)),if_neg (qc1 hs (by decide)),if_neg (by rw [qch hs];decide),if_neg (by rw [qch hs];decide),if_pos hs,h]
 show (if _ then _ else _)=_
 split<;>rfl
theorem pe_none {a:Nat} (h1:¬ isS l a [33]=true) (h2:¬ isS l a [45]=true) (h3:(tkD l a).1≠1) (h4:(tkD l a).1≠2) (h5:¬ isS l a [40]=true):PE l (.un a) (.bad a):=pe1 fun d=>by
 rw [go,if_neg h1,if_neg h2,if_neg h3,if_neg h4,if_neg h5]
def PS.at:PS→Nat
 | .lv _ a=>a
 | .lp _ b _=>b
 | .un a=>a
def PS.lvl:PS→Nat
 | .lv n _=>n
 | .lp n _ _=>n
 | .un _=>6
def Bd (l:List Tok):PS→PR→Prop
 | .lp _ a e0,.ok b e=>a≤b∧b<l.length∧e.length≤e0.length+(b-a)∧(goodE e0→goodE e)
 | s,.ok b e=>s.at<b∧b<l.length∧e.length≤b-s.at∧goodE e
 | s,.bad k=>s.at≤k∧k<l.length
theorem qba {r:Option PR} {f:Nat→List Trm→Option PR} {q:PR} (h:onOk r f=some q):(∃ b e,r=some (.ok b e)∧f b e=some q)∨∃ k,r=some (.bad k)∧q=.bad k:=by
 cases r with
 | none=>cases h
 | some x=>
   cases x with
   | ok b e=>exact .inl ⟨b,e,rfl,h⟩
   | bad k=>exact .inr ⟨k,rfl,(Option.some.inj h).symm⟩
theorem qct (hl:toksOK l):∀ (d:Nat) (s:PS) (r:PR),1≤s.lvl→s.at<l.length→go l d s=some r→Bd l s r
 | 0,s,r,_,_,h=>by cases h
 | d+1,.lv n a,r,h1,ha,h=>by
   have ha:a<l.length:=ha
   have h1:1≤n:=h1
   rw [go] at h
   split at h
   ·have:=qct hl d _ r (by show 1≤6;omega) (by exact ha) h
    cases r<;>exact this
   ·rcases qba h with ⟨b,e,g1,g2⟩ | ⟨k,g1,rfl⟩
    ·obtain ⟨i1,i2,i3,i4⟩:=qct hl d (.lv (n+1) a) _ (by show 1≤n+1;omega) (by exact ha) g1
     have i1:a<b:=i1
     have i3:e.length≤b-a:=i3
     have:=qct hl d (.lp n b e) r h1 i2 g2
     cases r with
     | ok c e2=>
       obtain ⟨j1,j2,j3,j4⟩:=this
       exact ⟨by show a<c;omega,j2,by show e2.length≤c-a;omega,j4 i4⟩
     | bad k=>
       obtain ⟨j1,j2⟩:=this
       have j1:b≤k:=j1
       exact ⟨by show a≤k;omega,j2⟩
    ·exact qct hl d (.lv (n+1) a) _ (by show 1≤n+1;omega) (by exact ha) g1
 | d+1,.lp n b e,r,h1,hb,h=>by
   have hb:b<l.length:=hb
   have h1:1≤n:=h1
   rw [go] at h
   split at h
   ·rename_i hs
    obtain ⟨o1,o2,o3⟩:=sgE_op hs h1
    have hb1:=qas hl hb (Ty.dflt ty85) (by rw [o3];decide)
    have hgood:∀ e2,goodE e2→goodE e→goodE (e++e2++[((sgE l b).1,0,[],[])]):=fun e2 h2 h=>h.bi h2 (may_op (by omega) o2) (by
     show opE (sgE l b).1=2
     unfold opE;(repeat' split)<;>omega)
    rcases qba h with ⟨c,e2,g1,g2⟩ | ⟨k,g1,rfl⟩
    ·obtain ⟨i1,i2,i3,i4⟩:=qct hl d (.lv (n+1) (b+1)) _ (by show 1≤n+1;omega) hb1 g1
     have i1:b+1<c:=i1
     have i3:e2.length≤c-(b+1):=i3
     split at g2
     ·cases g2
      exact ⟨by omega,i2,by simp;omega,hgood e2 i4⟩
     ·have:=qct hl d (.lp n c _) r h1 i2 g2
      cases r with
      | ok c' e'=>
        obtain ⟨j1,j2,j3,j4⟩:=this
        simp only [List.length_append,List.length_cons,List.length_nil] at j3
        exact ⟨by omega,j2,by omega,fun h=>j4 (hgood e2 i4 h)⟩
      | bad k=>
        obtain ⟨j1,j2⟩:=this
        have j1:c≤k:=j1
        exact ⟨by show b≤k;omega,j2⟩
    ·obtain ⟨j1,j2⟩:=qct hl d (.lv (n+1) (b+1)) _ (by show 1≤n+1;omega) hb1 g1
     have j1:b+1≤k:=j1
     exact ⟨by show b≤k;omega,j2⟩
   ·cases h
    exact ⟨Nat.le_refl _,hb,by omega,fun h=>h⟩
 | d+1,.un a,r,h1,ha,h=>by
   have ha:a<l.length:=ha
   obtain ⟨ht1,⟨ht2,ht3⟩,ht4⟩:=qcs hl ha (Ty.dflt ty85)
   have hnx:=qas hl ha (Ty.dflt ty85)
   have pre:∀ (op:Int),(op=4∨op=5)→(tkD l a).1=4→onOk (go l d (.un (a+1))) (fun b e=>some (.ok b (e++[(op,0,[],[])])))=some r→Bd l (.un a) r:=fun op hop h4 h=>by
    have hb1:=hnx (by rw [h4];decide)
    rcases qba h with ⟨c,e2,g1,g2⟩ | ⟨k,g1,rfl⟩
    ·obtain ⟨i1,i2,i3,i4⟩:=qct hl d (.un (a+1)) _ (by show 1≤6;omega) hb1 g1
     have i1:a+1<c:=i1
     have i3:e2.length≤c-(a+1):=i3
     cases g2
     refine ⟨by show a<c;omega,i2,by show _≤c-a;simp;omega,i4.un (may_op (by omega) (by omega)) ?_⟩
     show opE op=1
     unfold opE;(repeat' split)<;>omega
    ·obtain ⟨j1,j2⟩:=qct hl d (.un (a+1)) _ (by show 1≤6;omega) hb1 g1
     have j1:a+1≤k:=j1
     exact ⟨by show a≤k;omega,j2⟩
   rw [go] at h
   split at h
   ·rename_i hs;exact pre 4 (.inl rfl) (qch hs) h
   ·split at h
    ·rename_i hs;exact pre 5 (.inr rfl) (qch hs) h
    ·split at h
     ·rename_i hk
      have hb1:=hnx (by rw [hk];decide)
      have hn:=ht2 hk
      cases h
      refine ⟨by show a<a+1;omega,hb1,by show 1≤a+1-a;omega,goodE.nul (mayN hn) rfl⟩
     ·split at h
      ·rename_i hk
       have hb1:=hnx (by rw [hk];decide)
       have hn:=ht3 hk
       split at h
       ·rename_i hs
        have hb2:=qas hl hb1 (Ty.dflt ty85) (by rw [qch hs];decide)
        split at h
        ·rename_i hk2
         have hb3:=qas hl hb2 (Ty.dflt ty85) (by rw [hk2];decide)
         have hn2:=(qcs hl hb2 (Ty.dflt ty85)).2.1.2 hk2
         cases h
         refine ⟨by show a<a+3;omega,hb3,by show 1≤a+3-a;omega,goodE.nul (mayA hn hn2) rfl⟩
        ·cases h
         exact ⟨by show a≤a+2;omega,hb2⟩
       ·cases h
        refine ⟨by show a<a+1;omega,hb1,by show 1≤a+1-a;omega,goodE.nul (mayV hn) rfl⟩
      ·split at h
       ·rename_i hs
        have hb1:=hnx (by rw [qch hs];decide)
        rcases qba h with ⟨c,e2,g1,g2⟩ | ⟨k,g1,rfl⟩
        ·obtain ⟨i1,i2,i3,i4⟩:=qct hl d (.lv 1 (a+1)) _ (Nat.le_refl 1) hb1 g1
         have i1:a+1<c:=i1
         have i3:e2.length≤c-(a+1):=i3
         split at g2
         ·rename_i hs2
          have hb2:=qas hl i2 (Ty.dflt ty85) (by rw [qch hs2];decide)
          cases g2
          exact ⟨by show a<c+1;omega,hb2,by show _≤c+1-a;omega,i4⟩
         ·cases g2
          exact ⟨by show a≤c;omega,i2⟩
        ·obtain ⟨j1,j2⟩:=qct hl d (.lv 1 (a+1)) _ (Nat.le_refl 1) hb1 g1
         have j1:a+1≤k:=j1
         exact ⟨by show a≤k;omega,j2⟩
       ·cases h
        exact ⟨Nat.le_refl _,ha⟩
theorem PE.bd {s:PS} {r:PR} (h:PE l s r) (hl:toksOK l) (h1:1≤s.lvl) (ha:s.at<l.length):Bd l s r:=by
 obtain ⟨d,h⟩:=h.run
 exact qct hl d s r h1 ha h
end
theorem run2_prog {p:UInt8→Bool} {c:Int→Option Bool} (hc:∀ b:UInt8,c (b.toNat:Int)=some (p b)) (s:List UInt8) (hs:s.length<900000):F178 c s=some (s.takeWhile p):=by
 have h:∀ (t i n:Nat),i+t=s.length→t<n→R178 c s n (.l0 i)=some (s.take i++(s.drop i).takeWhile p):=by
  intro t
  induction t with
  | zero=>
    intro i n hi hn
    cases n with
    | zero=>omega
    | succ n=>
      show T178 Ops.std c s _ some _=_
      unfold T178
      simp only [qak,qam,qaa,qaf]
      rw [if_neg (by omega),if_pos (by omega),List.drop_eq_nil_of_le (show s.length≤i by omega)]
      simp
  | succ t ih=>
    intro i n hi hn
    cases n with
    | zero=>omega
    | succ n=>
      have hlt:i<s.length:=by omega
      show T178 Ops.std c s _ some _=_
      unfold T178
      have hw:IntKind.wrap IntKind.i64 ((i:Int)+1)=((i+1:Nat):Int):=qah (by omega)
      simp only [qak,qam,qaa,qaf]
      rw [if_pos (by omega),if_pos (by omega),hc,ob_s,qen hlt]
      cases hp:p (s.getD i 0) with
      | true=>
        simp only [cond_true]
        rw [hw,ih (i+1) n (by omega) (by omega),List.takeWhile_cons_of_pos hp]
        have:s.take (i+1)=s.take i++[s.getD i 0]:=by
         rw [List.take_add_one]
         simp [List.getD_eq_getElem?_getD,List.getElem?_eq_getElem hlt]
        rw [this]
        simp
      | false=>
        simp only [cond_false]
        rw [if_pos (by omega),List.takeWhile_cons_of_neg (by rw [hp];decide)]
        simp
 show T178 Ops.std c s _ some none=_
 unfold T178
 have:=h s.length 0 1000000 (by omega) (by omega)
 rw [List.take_zero,List.drop_zero,List.nil_append] at this
 exact this
theorem runD_prog (s:List UInt8) (hs:s.length<900000):M178 s=some (s.takeWhile digitP'):=run2_prog qdp s hs
theorem qfc (l:List Int) (x:Int) (hl:l.length<900000):∀ (t i n:Nat),i+t=l.length→t<n→
  R101 l x n (.l0 l.length i)=some (if x∈l.drop i then ((i+(l.drop i).findIdx (fun y=>decide (x=y)):Nat):Int) else -1)
 | t,i,0,hi,hn=>by omega
 | 0,i,n+1,hi,hn=>by
   show T101 Ops.std l x _ some _=_
   unfold T101
   simp only [qak,qaa]
   rw [if_neg (by omega),List.drop_eq_nil_of_le (by omega)]
   simp
 | t+1,i,n+1,hi,hn=>by
   have ih:=qfc l x hl t (i+1) n (by omega) (by omega)
   have hd:l.drop i=l.getD i 0::l.drop (i+1):=qbf 0 (by omega)
   show T101 Ops.std l x _ some _=_
   unfold T101
   have hw:IntKind.wrap IntKind.i64 ((i:Int)+1)=((i+1:Nat):Int):=qah (by omega)
   simp only [qak,qam,qao,qaa,qaf,hw]
   rw [if_pos (by omega),if_pos (by omega),hd]
   have hdf:l.getD i (Ty.dflt ty5)=l.getD i 0:=rfl
   rw [hdf]
   by_cases hx:x=l.getD i 0
   ·rw [if_pos hx,if_pos (by rw [hx];exact List.mem_cons_self ..),List.findIdx_cons,decide_eq_true hx,cond_t]
    simp
   ·rw [if_neg hx]
    refine Eq.trans ih ?_
    rw [List.findIdx_cons]
    have:decide (x=l.getD i 0)=false:=decide_eq_false hx
    rw [this,cond_f]
    simp only [List.mem_cons,hx,false_or]
    by_cases hm:x∈l.drop (i+1)
    ·rw [if_pos hm,if_pos hm];congr 1;omega
    ·rw [if_neg hm,if_neg hm]
theorem qc3 (l:List Int) (x:Int) (hl:l.length<900000):M66 l x=some (decide (x∈l)):=by
 have h0:=qfc l x hl l.length 0 1000000 (by omega) (by omega)
 have h:M101 l x=some (if x∈l.drop 0 then ((0+(l.drop 0).findIdx (fun y=>decide (x=y)):Nat):Int) else -1):=by
  show T101 Ops.std l x (R101 l x 1000000) some none=_
  unfold T101
  exact h0
 show T66 Ops.std M101 l x some=_
 unfold T66
 rw [h,ob_s,qbp,List.drop_zero]
 by_cases hm:x∈l
 ·rw [if_pos hm];simp [hm]
 ·rw [if_neg hm];simp [hm]
theorem qeq (w:List UInt8) (h3:w.length≤3) (hd:∀ b∈w,digitP' b=true):∀ (t i n:Nat),i+t=w.length→t<n→R104 w n (.l0 (valW (w.take i)) w.length i)=some (valW w)
 | t,i,0,hi,hn=>by omega
 | 0,i,n+1,hi,hn=>by
   show T104 Ops.std w _ some _=_
   unfold T104
   simp only [qak,qaa]
   rw [if_neg (by omega),List.take_of_length_le (by omega)]
 | t+1,i,n+1,hi,hn=>by
   have ih:=qeq w h3 hd t (i+1) n (by omega) (by omega)
   have hb:=qfa i (w.take i) (by rw [List.length_take];omega) fun b hb=>hd b (List.mem_of_mem_take hb)
   have hmem:w.getD i 0∈w:=by
    rw [List.getD_eq_getElem?_getD,List.getElem?_eq_getElem (show i<w.length by omega)]
    exact List.getElem_mem _
   have hv:=qbu (hd _ hmem)
   have h100:0≤valW (w.take i)∧valW (w.take i)<1000:=by
    have hi3:i=0∨i=1∨i=2:=by omega
    rcases hi3 with rfl | rfl | rfl<;>simp at hb ⊢<;>omega
   rw [take_snoc w i (by omega),valW_snoc] at ih
   show T104 Ops.std w _ some _=_
   unfold T104
   have hw:IntKind.wrap IntKind.i64 ((i:Int)+1)=((i+1:Nat):Int):=qah (by omega)
   simp only [qak,qam,qaa,qaf,hw]
   rw [if_pos (by omega),if_pos (by omega),wrap8 (by omega) (by omega),wrap64 (n:=(((w.getD i 0).toNat:Int)-48)) (by omega) (by omega),wrap64 (n:=10*valW (w.take i)) (by omega) (by omega),wrap64 (by omega) (by omega)]
   exact ih
theorem number_prog (w:List UInt8) (h3:w.length≤3) (hd:∀ b∈w,digitP' b=true):M104 w=some (valW w):=by
 have:=qeq w h3 hd w.length 0 1000000 (by omega) (by omega)
 rw [List.take_zero,show valW []=0 from rfl] at this
 show T104 Ops.std w (R104 w 1000000) some none=_
 unfold T104
 exact this
def preP (s p:List UInt8):Bool:=s.take p.length == p
theorem prefix_prog (s p:List UInt8):M108 s p=some (preP s p):=by
 show T108 Ops.std M126 s p some=_
 unfold T108
 have:M126 s p=some (preP s p):=by
  show T126 Ops.std s p some=_
  unfold T126 preP
  simp only [qbp,qam,qaa,qaf]
  by_cases h:p.length≤s.length
  ·rw [if_pos (by omega),if_pos (by omega)]
   simp
  ·have hne:s.take p.length≠p:=by
    intro he
    have:=congrArg List.length he
    rw [List.length_take] at this
    omega
   simp [h,hne]
 rw [this]
 rfl
def signsP:List (List UInt8):=[[60,61],[62,61],[61,61],[33,61],[38,38],[124,124],[45,62],[40],[41],[91],[93],[43],[45],[42],[60],[62],[33],[64],[59],[61]]
theorem signs_prog:M107=some signsP:=rfl
theorem qfd {α:Type} {p q:α→Bool}:∀ {l:List α},(∀ x∈l,p x=q x)→l.find? p=l.find? q
 | [],_=>rfl
 | a::l,h=>by
   rw [List.find?_cons,List.find?_cons,h a (List.mem_cons_self ..),qfd (l:=l) fun x hx=>h x (List.mem_cons_of_mem _ hx)]
theorem signsP_find (s:List UInt8):signsP.find? (preP s)=if signS s=[] then none else some (signS s):=by
 have e:signsP=twos++ones.map fun b=>[b]:=rfl
 have e2:twos.find? (preP s)=twos.find? (fun p=>decide (1<s.length) && (s.take 2 == p)):=qfd fun p hp=>by
  have hl:p.length=2:=by
   have:∀ q∈twos,q.length=2:=by decide
   exact this p hp
  unfold preP
  rw [hl]
  by_cases h1:1<s.length
  ·simp [h1]
  ·have:s.take 2≠p:=by
    intro he
    have:=congrArg List.length he
    rw [List.length_take] at this
    omega
   simp [h1,this]
 rw [e,List.find?_append,e2,List.find?_map]
 unfold signS
 cases h:twos.find? (fun p=>decide (1<s.length) && (s.take 2 == p)) with
 | some p=>
   have hne:p≠[]:=by
    have:∀ q∈twos,q≠[]:=by decide
    exact this p (List.mem_of_find?_eq_some h)
   simp [hne]
 | none=>
   have e3:(preP s ∘ fun b=>[b])=fun b=>s.take 1 == [b]:=rfl
   rw [e3]
   cases h2:ones.find? (fun b=>s.take 1 == [b]) with
   | some b=>
     have h3:=List.find?_some h2
     simp only [beq_iff_eq] at h3
     simp [h3]
   | none=>simp
noncomputable abbrev tokR (s:List UInt8):=R67 M102 M103 M178 M104 M105 M106 M66 M107 M108 s
theorem qer (s:List UInt8) (l:List (List UInt8)) (hl:l.length<1000):∀ (t i n:Nat),i+t=l.length→t<n→tokR s n (.l0 l.length i l)=some (match (l.drop i).find? (preP s) with
  | some p=>(4,p,0,0)
  | none=>(0,[],0,0))
 | t,i,0,hi,hn=>by omega
 | 0,i,n+1,hi,hn=>by
   show T67 Ops.std _ _ _ _ _ _ _ _ _ s _ some _=_
   unfold T67
   simp only [qak,qaa]
   rw [if_neg (by omega),List.drop_eq_nil_of_le (by omega)]
   rfl
 | t+1,i,n+1,hi,hn=>by
   have ih:=qer s l hl t (i+1) n (by omega) (by omega)
   have hd:l.drop i=l.getD i (Ty.dflt ty9)::l.drop (i+1):=qbf _ (by omega)
   show T67 Ops.std _ _ _ _ _ _ _ _ _ s _ some _=_
   unfold T67
   have hw:IntKind.wrap IntKind.i64 ((i:Int)+1)=((i+1:Nat):Int):=qah (by omega)
   simp only [qak,qam,qaa,qaf,hw,prefix_prog,ob_s]
   rw [if_pos (by omega),if_pos (by omega),hd,List.find?_cons]
   cases hp:preP s (l.getD i (Ty.dflt ty9)) with
   | true=>simp only [cond_true]
   | false=>
     simp only [cond_false]
     exact ih
theorem token_prog (s:List UInt8) (h0:0<s.length) (hs:s.length<900000):M67 s=some (match tokS s with
  | some (k,w,n)=>(k,w,n,0)
  | none=>(0,[],0,0)):=by
 show T67 Ops.std M102 M103 M178 M104 M105 M106 M66 M107 M108 s (tokR s 1000000) some none=_
 unfold T67
 cases s with
 | nil=>simp at h0
 | cons b r=>
   have hsg:=qer (b::r) signsP (by decide) 20 0 1000000 rfl (by omega)
   have e0:(b::r).getD (Int.toNat 0) 0=b:=rfl
   simp only [qam,qbp,qaa,e0,qdp,qcr,signs_prog,runD_prog _ hs,runW_prog _ hs,ob_s]
   rw [if_pos (by omega),tokS]
   cases hdg:digitP' b with
   | true=>
     simp only [cond_true,if_true]
     by_cases h3:((b::r).takeWhile digitP').length≤3
     ·rw [if_pos (by omega),if_pos h3,number_prog _ h3 (qfb _),ob_s]
     ·rw [if_neg (by omega),if_neg h3]
   | false=>
     simp only [cond_false,Bool.false_eq_true,if_false]
     cases hlw:lowerP b with
     | true=>
       simp only [cond_true,if_true]
       by_cases h8:((b::r).takeWhile wordP).length≤8
       ·rw [if_pos (by omega),if_pos h8]
       ·rw [if_neg (by omega),if_neg h8]
     | false=>
       simp only [cond_false,Bool.false_eq_true,if_false]
       have hc:M66 (88::70::71::85::82::mt (Ty.den (Ty.int IntKind.u8))) (b.toNat:Int)=some (letterP b):=by
        refine (qc3 _ _ (by simp [mt])).trans ?_
        congr 1
        rw [Bool.eq_iff_iff]
        simp only [decide_eq_true_eq,letterP,Bool.or_eq_true,List.mem_cons,mt,List.not_mem_nil,or_false]
        omega
       rw [hc,ob_s]
       cases hlt:letterP b with
       | true=>
         simp only [cond_true,if_true]
         rw [if_pos (by omega)]
         rfl
       | false=>
         simp only [cond_false,Bool.false_eq_true,if_false]
         refine Eq.trans hsg ?_
         rw [List.drop_zero,signsP_find]
         by_cases hn:signS (b::r)=[]
         ·rw [if_pos hn,if_pos hn]
         ·rw [if_neg hn,if_neg hn]
noncomputable abbrev lexPR (s:List UInt8):=R29 M66 M67 s
theorem lexP_go (s:List UInt8) (hs:s.length≤60000):∀ (f a n:Nat) (out:List Tok),s.length-a<f→a≤s.length→s.length-a<n→out.length≤a→
  lexPR s n (.l0 a out)=some (lexGo f (s.drop a) a out)
 | 0,a,n,out,hf,ha,hn,ho=>by omega
 | f+1,a,0,out,hf,ha,hn,ho=>by omega
 | f+1,a,n+1,out,hf,ha,hn,ho=>by
   have ih:=lexP_go s hs f
   show T29 Ops.std _ _ s _ some _=_
   unfold T29
   by_cases hend:a=s.length
   ·rw [List.drop_eq_nil_of_le (by omega)]
    simp only [qak,qap,qaa,mt,List.length_cons,List.length_nil]
    rw [if_neg (by omega),if_pos (by omega),hend]
    rfl
   ·have halt:a<s.length:=by omega
    have hd:s.drop a=s.getD a 0::s.drop (a+1):=qen halt
    have hw1:IntKind.wrap IntKind.i64 ((a:Int)+1)=((a+1:Nat):Int):=qah (by omega)
    have hc:M66 (32::9::10::mt (Ty.den (Ty.int IntKind.u8))) ((s.getD a 0).toNat:Int)=some (blankP (s.getD a 0)):=by
     refine (qc3 _ _ (by simp [mt])).trans ?_
     congr 1
     rw [Bool.eq_iff_iff]
     simp only [decide_eq_true_eq,blankP,Bool.or_eq_true,List.mem_cons,mt,List.not_mem_nil,or_false]
     omega
    have htk:=token_prog (s.drop a) (by rw [List.length_drop];omega) (by rw [List.length_drop];omega)
    simp only [qak,qam,qao,qap,qaa,qaf,hw1,hc,ob_s,List.take_length,htk]
    rw [if_pos (by omega),if_pos (by omega)]
    cases hb:blankP (s.getD a 0) with
    | true=>
      simp only [cond_true]
      refine Eq.trans (ih (a+1) n out (by omega) (by omega) (by omega) (by omega)) ?_
      rw [hd]
      simp only [lexGo,hb,if_true]
    | false=>
      simp only [cond_false]
      rw [if_pos (by omega)]
      cases ht:tokS (s.drop a) with
      | none=>
        simp only [if_true]
        rw [hd] at ht ⊢
        simp only [lexGo,hb,ht,Bool.false_eq_true,if_false]
      | some x=>
        obtain ⟨k,w,v⟩:=x
        obtain ⟨h1,h2,h3,h4,h5⟩:=tok_len ht
        rw [List.length_drop] at h2
        simp only [if_neg h4,mt,List.length_cons,List.length_nil]
        rw [if_pos (by omega),show IntKind.wrap IntKind.i64 ((a:Int)+(w.length:Int))=((a+w.length:Nat):Int) by rw [wrap64 (by omega) (by omega)];omega]
        refine Eq.trans (ih (a+w.length) n _ (by omega) (by omega) (by omega) (by simp;omega)) ?_
        have ht':=ht
        rw [hd] at ht ⊢
        simp only [lexGo,hb,ht,Bool.false_eq_true,if_false]
        rw [←hd,List.drop_drop]
theorem lex_prog (s:List UInt8):M29 s=some (lexS s):=by
 show T29 Ops.std M66 M67 s (lexPR s 1000000) some none=_
 unfold T29 lexS
 simp only [qak,qaa,mt]
 by_cases h:60000<s.length
 ·rw [if_pos (by omega),if_pos h]
 ·rw [if_neg (by omega),if_neg h]
  exact lexP_go s (by omega) (s.length+1) 0 1000000 [] (by omega) (by omega) (by omega) (by simp)
def sgT (l:List Tok) (a:Nat):List UInt8:=if (tkD l a).1=4 then (tkD l a).2.1 else []
theorem sgT_is {l:List Tok} {a:Nat} {w:List UInt8} (hw:w≠[]):(sgT l a == w)=isS l a w:=by
 unfold sgT isS
 by_cases h:(tkD l a).1=4
 ·rw [if_pos h,decide_eq_true h,Bool.true_and]
 ·rw [if_neg h,decide_eq_false h,Bool.false_and]
  simpa using hw
theorem sgT_op (l:List Tok) (a:Nat):sgW (sgT l a)=sgE l a:=by
 unfold sgT sgE
 split<;>rfl
theorem qbv {l:List Tok} {a:Nat} (ha:a<l.length) (out:List Trm):M98 l a out=some (sgT l a,l,(a:Int),out):=by
 show T98 Ops.std l a out some=_
 unfold T98 sgT
 simp only [qam,qao,qaa,qaf]
 rw [if_pos (by omega)]
 split<;>rfl
theorem op_chain (w:List UInt8):M97 w=cond (([42]:List UInt8) == w) (some (6,4)) (cond (([43]:List UInt8) == w) (some (7,3)) (cond (([45]:List UInt8) == w) (some (8,3)) (cond (([60]:List UInt8) == w) (some (9,2)) (cond (([60,61]:List UInt8) == w) (some (10,2)) (cond (([62]:List UInt8) == w) (some (11,2)) (cond (([62,61]:List UInt8) == w) (some (12,2)) (cond (([61,61]:List UInt8) == w) (some (13,2)) (cond (([33,61]:List UInt8) == w) (some (14,2)) (cond (([38,38]:List UInt8) == w) (some (15,1)) (cond (([124,124]:List UInt8) == w) (some (16,0)) (some (0,-1)))))))))))):=by kernel_rfl
theorem beq_ite {α:Type} (x w:List UInt8) (a b:α):cond (x == w) a b=if w=x then a else b:=by
 by_cases h:w=x
 ·rw [if_pos h,h];simp
 ·rw [if_neg h]
  have:(x == w)=false:=by simpa using fun h2=>h h2.symm
  rw [this];rfl
theorem op_prog (w:List UInt8):M97 w=some ((sgW w).1,((sgW w).2:Int)-1):=by
 rw [op_chain]
 simp only [beq_ite]
 have key:∀ f:Int×Nat→Option (Int×Int),f (sgW w)=if w=[42] then f (6,5) else if w=[43] then f (7,4) else if w=[45] then f (8,4) else if w=[60] then f (9,3) else if w=[60,61] then f (10,3) else if w=[62] then f (11,3) else if w=[62,61] then f (12,3) else if w=[61,61] then f (13,3) else if w=[33,61] then f (14,3) else if w=[38,38] then f (15,2) else if w=[124,124] then f (16,1) else f (0,0):=fun f=>by
  unfold sgW
  simp only [apply_ite f]
 exact (key fun p=>some (p.1,(p.2:Int)-1)).symm
theorem qc4 (l:List Int):M123 l=some l:=rfl
def RsP (l:List Tok) (out:List Trm) (r:PR) (o:Option (Bool×List Tok×Int×List Trm)):Prop:=match r with
 | .ok b e=>o=some (true,l,(b:Int),out++e)
 | .bad k=>∃ out',o=some (false,l,(k:Int),out')
noncomputable abbrev bnR (d:Nat):=R63 (Rec63 d).2.1 (Rec63 d).1 M98 M97
noncomputable abbrev uaR (d:Nat):=R96 M98 (Rec63 d).2.2 M123
abbrev BnOK (l:List Tok) (d:Nat):Prop:=∀ (n a:Nat) (out:List Trm),1≤n→n≤6→16*(l.length-a)+2*(7-n)<d→a<l.length→out.length+(l.length-a)<200000→∃ r,PE l (.lv n a) r∧RsP l out r ((Rec63 d).1 ((n:Int)-1) l a out)
abbrev UaOK (l:List Tok) (d:Nat):Prop:=∀ (a:Nat) (out:List Trm),16*(l.length-a)<d→a<l.length→out.length+(l.length-a)<200000→∃ r,PE l (.un a) r∧RsP l out r ((Rec63 d).2.1 l a out)
abbrev AtOK (l:List Tok) (d:Nat):Prop:=∀ (a:Nat) (out:List Trm),16*(l.length-a)<d+3→a<l.length→out.length+(l.length-a)<200000→¬ isS l a [33]=true→¬ isS l a [45]=true→∃ r,PE l (.un a) r∧RsP l out r ((Rec63 d).2.2 l a out)
section
variable {l:List Tok}
theorem wordE_prog (hl:toksOK l) (hll:l.length<100000) {a:Nat} (ha:a<l.length) (hk:(tkD l a).1=2) (out:List Trm) (ho:out.length+(l.length-a)<200000):∃ r,PE l (.un a) r∧RsP l out r (M135 l a out):=by
 have h1:=qas hl ha (Ty.dflt ty85) (by rw [show (l.getD a (Ty.dflt ty85)).1=2 from hk];decide)
 have hM:M135 l a out=T135 Ops.std M98 l a out some:=rfl
 rw [hM]
 unfold T135
 have hw1:IntKind.wrap IntKind.i64 ((a:Int)+1)=((a+1:Nat):Int):=qah (by omega)
 simp only [qam,qao,qap,qaa,qa7,qaf,mt,List.length_cons,List.length_nil,hw1]
 rw [if_pos (by omega),qbv h1,ob_s]
 dsimp only
 rw [sgT_is (by decide)]
 have hpe:=pe_word hk
 cases hs:isS l (a+1) [64] with
 | false=>
   rw [if_neg (by rw [hs];decide)] at hpe
   simp only [Bool.not_false,cond_true]
   rw [if_pos (by omega)]
   exact ⟨_,hpe,rfl⟩
 | true=>
   rw [if_pos hs] at hpe
   have h2:=qas hl h1 (Ty.dflt ty85) (by rw [show (l.getD (a+1) (Ty.dflt ty85)).1=4 from qch hs];decide)
   have hw2:IntKind.wrap IntKind.i64 (((a+1:Nat):Int)+1)=((a+2:Nat):Int):=qah (by omega)
   have hw3:IntKind.wrap IntKind.i64 (((a+2:Nat):Int)+1)=((a+3:Nat):Int):=qah (by omega)
   simp only [Bool.not_true,cond_false,hw2,hw3,qaf]
   have hin:(0:Int)≤((a+2:Nat):Int)∧((a+2:Nat):Int)<(l.length:Int):=by omega
   simp only [if_pos hin]
   by_cases h3:(l.getD (a+2) (Ty.dflt ty85)).1=2
   ·rw [if_pos h3] at hpe
    rw [if_neg (fun h=>h h3),if_pos (by omega)]
    exact ⟨_,hpe,rfl⟩
   ·rw [if_neg h3] at hpe
    rw [if_pos h3]
    exact ⟨_,hpe,_,rfl⟩
theorem atom_step (hl:toksOK l) (hll:l.length<100000) (d:Nat) (hb:BnOK l d):AtOK l (d+1):=fun a out hd ha ho n1 n2=>by
 show ∃ r,PE l (.un a) r∧RsP l out r (T122 Ops.std M135 M98 (Rec63 d).1 l a out some)
 unfold T122
 have hw1:IntKind.wrap IntKind.i64 ((a:Int)+1)=((a+1:Nat):Int):=qah (by omega)
 simp only [qam,qao,qap,qaa,qa7,qaf,mt,List.length_cons,List.length_nil,hw1]
 rw [if_pos (by omega)]
 by_cases k1:(l.getD a (Ty.dflt ty85)).1=1
 ·rw [if_pos k1,if_pos (by omega)]
  exact ⟨_,pe_num k1,rfl⟩
 ·rw [if_neg k1]
  by_cases k2:(l.getD a (Ty.dflt ty85)).1=2
  ·rw [if_pos k2]
   obtain ⟨r,h1,h2⟩:=wordE_prog hl hll ha k2 out ho
   refine ⟨r,h1,?_⟩
   cases r with
   | ok b e=>
     have h2:M135 l a out=some (true,l,(b:Int),out++e):=h2
     rw [h2,ob_s]
     exact rfl
   | bad k=>
     obtain ⟨out',h2⟩:=h2
     rw [h2,ob_s]
     exact ⟨_,rfl⟩
  ·rw [if_neg k2,qbv ha,ob_s]
   dsimp only
   rw [sgT_is (by decide)]
   cases hs:isS l a [40] with
   | false=>
     simp only [Bool.not_false,cond_true]
     exact ⟨_,pe_none n1 n2 k1 k2 (by rw [hs];decide),_,rfl⟩
   | true=>
     simp only [Bool.not_true,cond_false,hw1]
     have h1:=qas hl ha (Ty.dflt ty85) (by rw [qch hs];decide)
     obtain ⟨r,g1,g2⟩:=hb 1 (a+1) out (by omega) (by omega) (by omega) h1 (by omega)
     have e0:((1:Nat):Int)-1=0:=rfl
     rw [e0] at g2
     cases r with
     | bad k=>
       obtain ⟨out',g2⟩:=g2
       rw [g2,ob_s]
       exact ⟨_,pe_brab hs g1,_,rfl⟩
     | ok b e=>
       have g2:(Rec63 d).1 0 l ((a+1:Nat):Int) out=some (true,l,(b:Int),out++e):=g2
       have hbd:=g1.bd hl (Nat.le_refl 1) h1
       rw [g2,ob_s]
       dsimp only
       simp only [Bool.not_true,cond_false]
       rw [qbv hbd.2.1,ob_s]
       dsimp only
       rw [sgT_is (by decide)]
       refine ⟨_,pe_bra hs g1,?_⟩
       cases hs2:isS l b [41] with
       | false=>exact ⟨_,rfl⟩
       | true=>
         have:IntKind.wrap IntKind.i64 ((b:Int)+1)=((b+1:Nat):Int):=qah (by have:=hbd.2.1;omega)
         rw [this]
         exact rfl
theorem qfe (hll:l.length<100000) (d:Nat) (p0:List Tok) (p1:Int) (p2:List Trm) (b:Nat):∀ (ops:List Int) (m:Nat) (rest:List Int) (out:List Trm),ops.length<m→out.length+ops.length<1000000→
  uaR d p0 p1 p2 m (.l1012 ((ops.length:Nat)-1) l b out (ops.reverse++rest))=some (true,l,(b:Int),out++ops.map fun n=>(n,0,[],[]))
 | ops,0,rest,out,hm,ho=>by omega
 | [],m+1,rest,out,hm,ho=>by
  show T96 Ops.std _ _ _ p0 p1 p2 _ some _=_
  unfold T96
  simp only [qak,qaa]
  rw [if_pos (by simp)]
  simp
 | x::ops,m+1,rest,out,hm,ho=>by
   have ih:=qfe hll d p0 p1 p2 b ops m (x::rest) (out++[(x,0,[],[])]) (by simpa using hm) (by simp at ho ⊢;omega)
   show T96 Ops.std _ _ _ p0 p1 p2 _ some _=_
   unfold T96
   simp only [qak,qap,qaa,mt]
   have hi:(((x::ops).length:Nat):Int)-1=(ops.length:Nat):=by simp
   rw [hi,if_neg (by omega),if_pos (by simp;omega),qaf]
   have hg:((x::ops).reverse++rest).getD ops.length 0=x:=by
    rw [List.reverse_cons,List.append_assoc]
    have:=qat ops.reverse x rest 0
    rw [List.length_reverse] at this
    exact this
   rw [hg,if_pos (by simp only [List.length_cons,List.length_nil];simp at ho;omega)]
   rw [List.reverse_cons,List.append_assoc]
   rw [List.map_cons]
   have e:out++((x,0,[],[])::ops.map fun n=>((n,0,[],[]):Trm))=out++[(x,0,[],[])]++ops.map fun n=>(n,0,[],[]):=by simp
   rw [e]
   exact ih
theorem qdq (hl:toksOK l) (hll:l.length<100000) (d:Nat) (hat:AtOK l d) (p0:List Tok) (p1:Int) (p2:List Trm):∀ (t a m:Nat) (ops:List Int) (out:List Trm),l.length-a≤t→200000+t<m→16*(l.length-a)<d+3→a<l.length→ops.length+out.length+(l.length-a)<200000→
  ∃ r,PE l (.un a) r∧(match r with
    | .ok b e=>uaR d p0 p1 p2 m (.l0 l a ops out)=some (true,l,(b:Int),out++e++ops.reverse.map fun n=>(n,0,[],[]))
    | .bad k=>∃ out',uaR d p0 p1 p2 m (.l0 l a ops out)=some (false,l,(k:Int),out'))
 | t,a,0,ops,out,ht,hm,hd,ha,ho=>by omega
 | 0,a,m+1,ops,out,ht,hm,hd,ha,ho=>by omega
 | t+1,a,m+1,ops,out,ht,hm,hd,ha,ho=>by
   have hU:uaR d p0 p1 p2 (m+1) (.l0 l a ops out)=T96 Ops.std M98 (Rec63 d).2.2 M123 p0 p1 p2 (uaR d p0 p1 p2 m) some (some (.l0 l a ops out)):=rfl
   rw [hU]
   unfold T96
   have hw1:IntKind.wrap IntKind.i64 ((a:Int)+1)=((a+1:Nat):Int):=qah (by omega)
   simp only [qam,qao,qap,qak,qaa,qa7,qaf,mt,List.length_cons,List.length_nil,qbv ha,ob_s,hw1,sgT_is (l:=l) (a:=a) (w:=[33]) (by decide),sgT_is (l:=l) (a:=a) (w:=[45]) (by decide)]
   cases hs1:isS l a [33] with
   | true=>
     simp only [cond_true]
     rw [if_pos (by omega)]
     have h1:=qas hl ha (Ty.dflt ty85) (by rw [qch hs1];decide)
     obtain ⟨r,g1,g2⟩:=qdq hl hll d hat p0 p1 p2 t (a+1) m (ops++[4]) out (by omega) (by omega) (by omega) h1 (by simp;omega)
     cases r with
     | ok b e=>
       refine ⟨_,pe_not hs1 g1,g2.trans ?_⟩
       simp
     | bad k=>exact ⟨_,pe_notb hs1 g1,g2⟩
   | false=>
     simp only [cond_false]
     cases hs2:isS l a [45] with
     | true=>
       simp only [cond_true]
       rw [if_pos (by omega)]
       have h1:=qas hl ha (Ty.dflt ty85) (by rw [qch hs2];decide)
       obtain ⟨r,g1,g2⟩:=qdq hl hll d hat p0 p1 p2 t (a+1) m (ops++[5]) out (by omega) (by omega) (by omega) h1 (by simp;omega)
       cases r with
       | ok b e=>
         refine ⟨_,pe_neg hs2 g1,g2.trans ?_⟩
         simp
       | bad k=>exact ⟨_,pe_negb hs2 g1,g2⟩
     | false=>
       simp only [cond_false]
       obtain ⟨r,g1,g2⟩:=hat a out hd ha (by omega) (by rw [hs1];decide) (by rw [hs2];decide)
       refine ⟨r,g1,?_⟩
       cases r with
       | bad k=>
         obtain ⟨out',g2⟩:=g2
         rw [g2,ob_s]
         exact ⟨_,rfl⟩
       | ok b e=>
         have g2:(Rec63 d).2.2 l (a:Int) out=some (true,l,(b:Int),out++e):=g2
         have hbd:=g1.bd hl (by show 1≤6;omega) ha
         have hb1:a<b:=hbd.1
         have hb3:e.length≤b-a:=hbd.2.2.1
         have hb2:b<l.length:=hbd.2.1
         rw [g2,ob_s]
         dsimp only
         simp only [Bool.not_true,cond_false,qc4,ob_s]
         have:=qfe hll d p0 p1 p2 b ops.reverse m [] (out++e) (by simp;omega) (by simp;omega)
         simp only [List.reverse_reverse,List.append_nil,List.length_reverse] at this
         exact this
theorem qb8 (hl:toksOK l) (hll:l.length<100000) (d n:Nat) (h1:1≤n) (h6:n≤5) (p1:List Tok) (p2:Int) (p3:List Trm) (hb:∀ (a:Nat) (out:List Trm),16*(l.length-a)+2*(6-n)<d→a<l.length→out.length+(l.length-a)<200000→∃ r,PE l (.lv (n+1) a) r∧RsP l out r ((Rec63 d).1 (n:Int) l a out)):∀ (t b m:Nat) (out e:List Trm),l.length-b≤t→t<m→16*(l.length-b)+2*(6-n)<d→b<l.length→out.length+e.length+(l.length-b)<200000→
  ∃ r,PE l (.lp n b e) r∧RsP l out r (bnR d ((n:Int)-1) p1 p2 p3 m (.l0 l b (out++e)))
 | t,b,0,out,e,ht,hm,hd,hbl,ho=>by omega
 | 0,b,m+1,out,e,ht,hm,hd,hbl,ho=>by omega
 | t+1,b,m+1,out,e,ht,hm,hd,hbl,ho=>by
   have hU:bnR d ((n:Int)-1) p1 p2 p3 (m+1) (.l0 l b (out++e))=T63 Ops.std (Rec63 d).2.1 (Rec63 d).1 M98 M97 ((n:Int)-1) p1 p2 p3 (bnR d ((n:Int)-1) p1 p2 p3 m) some (some (.l0 l b (out++e))):=rfl
   rw [hU]
   unfold T63
   have hw1:IntKind.wrap IntKind.i64 ((b:Int)+1)=((b+1:Nat):Int):=qah (by omega)
   have hwn:IntKind.wrap IntKind.i64 ((n:Int)-1+1)=(n:Int):=by rw [wrap64 (by omega) (by omega)];omega
   simp only [qam,qao,qap,qak,qaa,qa7,qaf,mt,List.length_cons,List.length_nil,qbv hbl,ob_s,hw1,hwn,op_prog,sgT_op]
   by_cases hs:(sgE l b).2=n
   ·have ho3:=sgE_op hs h1
    rw [if_neg (by omega)]
    have hb1:=qas hl hbl (Ty.dflt ty85) (by rw [show (l.getD b (Ty.dflt ty85)).1=4 from ho3.2.2];decide)
    obtain ⟨r,g1,g2⟩:=hb (b+1) (out++e) (by omega) hb1 (by simp;omega)
    cases r with
    | bad k=>
      obtain ⟨out',g2⟩:=g2
      rw [g2,ob_s]
      exact ⟨_,pe_lpbad hs g1,_,rfl⟩
    | ok c e2=>
      have g2:(Rec63 d).1 (n:Int) l ((b+1:Nat):Int) (out++e)=some (true,l,(c:Int),out++e++e2):=g2
      have hbd:=g1.bd hl (by show 1≤n+1;omega) hb1
      have hc1:b+1<c:=hbd.1
      have hc2:c<l.length:=hbd.2.1
      have hc3:e2.length≤c-(b+1):=hbd.2.2.1
      rw [g2,ob_s]
      dsimp only
      simp only [Bool.not_true,cond_false]
      rw [if_pos (by simp only [List.length_append];omega)]
      by_cases h3:n=3
      ·subst h3
       rw [if_pos (by decide)]
       refine ⟨_,pe_three hs g1,?_⟩
       show some _=some _
       simp
      ·rw [if_neg (by omega)]
       obtain ⟨r,j1,j2⟩:=qb8 hl hll d n h1 h6 p1 p2 p3 hb t c m out (e++e2++[((sgE l b).1,0,[],[])]) (by omega) (by omega) (by omega) hc2 (by simp;omega)
       refine ⟨r,pe_more h3 hs g1 j1,?_⟩
       have ea:out++(e++e2++[((sgE l b).1,0,[],[])])=out++e++e2++[((sgE l b).1,0,[],[])]:=by simp
       rw [ea] at j2
       exact j2
   ·rw [if_pos (by omega)]
    exact ⟨_,pe_stop hs,rfl⟩
theorem parser_ok (hl:toksOK l) (hll:l.length<100000):∀ d,BnOK l d∧UaOK l d∧AtOK l d
 | 0=>⟨fun n a out _ _ h _ _=>(by omega),fun a out h _ _=>(by omega),fun a out h ha _ _ _=>(by omega)⟩
 | d+1=>by
   obtain ⟨hb,hu,hat⟩:=parser_ok hl hll d
   refine ⟨fun n a out h1 h6 hd ha ho=>?_,fun a out hd ha ho=>?_,atom_step hl hll d hb⟩
   ·show ∃ r,PE l (.lv n a) r∧RsP l out r (T63 Ops.std (Rec63 d).2.1 (Rec63 d).1 M98 M97 ((n:Int)-1) l a out (bnR d ((n:Int)-1) l a out 1000000) some none)
    unfold T63
    have hwn:IntKind.wrap IntKind.i64 ((n:Int)-1+1)=(n:Int):=by rw [wrap64 (by omega) (by omega)];omega
    simp only [qao,qaa,hwn]
    by_cases hn:n=6
    ·subst hn
     rw [if_pos (by decide)]
     obtain ⟨r,g1,g2⟩:=hu a out (by omega) ha ho
     refine ⟨r,pe_six g1,?_⟩
     cases r with
     | bad k=>
       obtain ⟨out',g2⟩:=g2
       rw [g2,ob_s]
       exact ⟨_,rfl⟩
     | ok b e=>
       have g2:(Rec63 d).2.1 l (a:Int) out=some (true,l,(b:Int),out++e):=g2
       rw [g2,ob_s]
       exact rfl
    ·rw [if_neg (by omega)]
     have hsub:∀ (a:Nat) (out:List Trm),16*(l.length-a)+2*(6-n)<d→a<l.length→out.length+(l.length-a)<200000→∃ r,PE l (.lv (n+1) a) r∧RsP l out r ((Rec63 d).1 (n:Int) l a out):=fun a out h2 h3 h4=>by
      have:=hb (n+1) a out (by omega) (by omega) (by omega) h3 h4
      have e:((n+1:Nat):Int)-1=(n:Int):=by omega
      rw [e] at this
      exact this
     obtain ⟨r,g1,g2⟩:=hsub a out (by omega) ha ho
     cases r with
     | bad k=>
       obtain ⟨out',g2⟩:=g2
       rw [g2,ob_s]
       exact ⟨_,pe_bad hn g1,_,rfl⟩
     | ok b e=>
       have g2:(Rec63 d).1 (n:Int) l (a:Int) out=some (true,l,(b:Int),out++e):=g2
       have hbd:=g1.bd hl (by show 1≤n+1;omega) ha
       have hc1:a<b:=hbd.1
       have hc2:b<l.length:=hbd.2.1
       have hc3:e.length≤b-a:=hbd.2.2.1
       rw [g2,ob_s]
       obtain ⟨r,j1,j2⟩:=qb8 hl hll d n h1 (by omega) l a out hsub (l.length-b) b 1000000 out e (by omega) (by omega) (by omega) hc2 (by omega)
       exact ⟨r,pe_lv hn g1 j1,j2⟩
   ·show ∃ r,PE l (.un a) r∧RsP l out r (T96 Ops.std M98 (Rec63 d).2.2 M123 l a out (uaR d l a out 1000000) some none)
    unfold T96
    obtain ⟨r,g1,g2⟩:=qdq hl hll d hat l a out (l.length-a) a 1000000 [] out (by omega) (by omega) (by omega) ha (by simp;omega)
    refine ⟨r,g1,?_⟩
    cases r with
    | bad k=>exact g2
    | ok b e=>
      refine g2.trans ?_
      simp
def takeR (a:Nat):PR→Int×Int×List Trm
 | .ok b e=>if 30<e.length then ((a:Int),13,[]) else ((b:Int),0,e)
 | .bad k=>((k:Int),2,[])
theorem ended_prog (hl:toksOK l) (hll:l.length<100000) {a:Nat} (ha:a<l.length):M62 l a=some true:=by
 show T62 Ops.std l a some=_
 unfold T62
 have hw:IntKind.wrap IntKind.i64 (((l.length:Nat):Int)-1)=((l.length-1:Nat):Int):=by rw [wrap64 (by omega) (by omega)];omega
 simp only [qam,qao,qbp,qak,qaa,hw,qaf]
 rw [if_pos (by omega),if_pos (by omega),if_pos (by omega)]
 rcases (qcs hl (i:=l.length-1) (by omega) (Ty.dflt ty85)).1 with h | h
 ·omega
 ·rw [h];rfl
theorem take_prog (hl:toksOK l) (hll:l.length≤60001) {a:Nat} (ha:a<l.length):∃ r,PE l (.lv 1 a) r∧M25 l a=some (takeR a r):=by
 obtain ⟨r,g1,g2⟩:=(parser_ok hl (by omega) 1000000).1 1 a [] (by omega) (by omega) (by omega) ha (by simp;omega)
 refine ⟨r,g1,?_⟩
 show T25 Ops.std M62 M63 l a some=_
 unfold T25
 simp only [qak,qaa,ended_prog hl (by omega:l.length<100000) ha,ob_s,Bool.not_true,cond_false,mt]
 cases r with
 | bad k=>
   obtain ⟨out',g2⟩:=g2
   have g2:M63 0 l (a:Int) []=some (false,l,(k:Int),out'):=g2
   rw [g2,ob_s]
   exact rfl
 | ok b e=>
   have g2:M63 0 l (a:Int) []=some (true,l,(b:Int),[]++e):=g2
   rw [g2,ob_s]
   simp only [List.nil_append,Bool.not_true,cond_false,takeR]
   by_cases h:30<e.length
   ·rw [if_pos (by omega),if_pos h]
   ·rw [if_neg (by omega),if_neg h]
def parseR (l:List Tok) (y:Int×Int×List Trm):Int×Int×List Trm:=
 if y.2.1=0 then (if (tkD l y.1.toNat).1=5 then (0,0,y.2.2) else (2,(tkD l y.1.toNat).2.2.2,[])) else (y.2.1,(tkD l y.1.toNat).2.2.2,[])
end
def ParseIs (s:List UInt8) (y:Int×Int×List Trm):Prop:=
 (∃ (e x:Int) (l:List Tok),lexS s=(e,x,l)∧e≠0∧y=(e,x,[]))∨∃ (x:Int) (l:List Tok) (r:PR),lexS s=(0,x,l)∧PE l (.lv 1 0) r∧y=parseR l (takeR 0 r)
theorem ParseIs.det {s:List UInt8} {y y':Int×Int×List Trm} (h:ParseIs s y) (h':ParseIs s y'):y=y':=by
 rcases h with ⟨e,x,l,h1,h2,rfl⟩ | ⟨x,l,r,h1,h2,rfl⟩<;>rcases h' with ⟨e',x',l',g1,g2,rfl⟩ | ⟨x',l',r',g1,g2,rfl⟩
 ·rw [h1] at g1;cases g1;rfl
 ·rw [h1] at g1;cases g1;exact absurd rfl h2
 ·rw [h1] at g1;cases g1;exact absurd rfl g2
 ·rw [h1] at g1;cases g1;rw [h2.det g2]
section
variable {l:List Tok} (hl:toksOK l)
end
section
variable {f:List Prt} {Run:Nat→Nat→List (List Int)→List Int→Option (List (List Int))} {E:List Trm→Bool}
end
section
variable (E:List Trm→Bool)
end
structure At (f:List Prt) (K:List (List Int)) (t:Fm Trm) (b:Nat):Prop where
 parts:∃ pre post,f=pre++t.flat++post∧pre.length=b
 kids:∃ pre post,K=pre++t.kids b++post∧pre.length=b
section
variable {f:List Prt} {K:List (List Int)} {b:Nat}
theorem At.len {t:Fm Trm} (h:At f K t b):b+t.size≤f.length∧b+t.size≤K.length:=by
 obtain ⟨⟨pre,post,h1,h2⟩,⟨kp,kq,h3,h4⟩⟩:=h
 constructor
 ·rw [h1];simp only [List.length_append,t.flat_len,h2];omega
 ·rw [h3];simp only [List.length_append,t.kids_len,h4];omega
theorem At.un {p:Prt} {a:Fm Trm} (h:At f K (.un p a) b):At f K a b:=by
 obtain ⟨⟨pre,post,h1,h2⟩,⟨kp,kq,h3,h4⟩⟩:=h
 exact ⟨⟨pre,[p]++post,by rw [h1];simp [Fm.flat],h2⟩,⟨kp,[[((b+a.size-1:Nat):Int)]]++kq,by rw [h3];simp [Fm.kids],h4⟩⟩
end
theorem At.all (t:Fm Trm):At t.flat (t.kids 0) t 0:=⟨⟨[],[],by simp,rfl⟩,⟨[],[],by simp,rfl⟩⟩
section
variable (f:List Prt) (K:List (List Int)) (i:Int) (no:Bool) (out:List Prt) (d n:Nat)
end
section
variable {E:List Trm→Bool}
end
section
variable {E:List Trm→Bool}
end
def shortP (p:Prt):Prop:=p.2.length≤30∧∀ t∈p.2,t.2.2.1.length≤8∧t.2.2.2.length≤8
def goodF (e:List Prt):Prop:=(∀ (r:List Prt) (d:Int),0≤d→rGo rightE (e++r) d=rGo rightE r (d+1))∧∀ p∈e,shortP p
theorem shortP.nil (k:Int):shortP (k,[]):=⟨by simp,by simp⟩
theorem badP_of {p:Prt} {d:Int} (h1:0≤opn p.1) (h2:opn p.1≤d) (h3:p.1=3→rightE p.2=true) (h4:p.1≠3→p.2=[]):badP rightE p d=false:=by
 unfold badP
 by_cases h:p.1=3
 ·rw [h] at h1 h2
  simp [h,h3 h];omega
 ·simp [h,h4 h];omega
theorem goodF.nul {p:Prt} (ho:opn p.1=0) (h3:p.1=3→rightE p.2=true) (h4:p.1≠3→p.2=[]) (hs:shortP p):goodF [p]:=by
 refine ⟨fun r d hd=>?_,by simpa using hs⟩
 simp only [List.cons_append,List.nil_append,rGo,badP_of (by omega) (by omega:opn p.1≤d) h3 h4,ho]
 simp
theorem goodF.un {e:List Prt} {k:Int} (he:goodF e) (ho:opn k=1):goodF (e++[(k,[])]):=by
 refine ⟨fun r d hd=>?_,fun p hp=>?_⟩
 ·rw [List.append_assoc,he.1 _ d hd]
  have hk:k≠3:=ne3 ho (by omega)
  have hb:badP rightE ((k,[]):Prt) (d+1)=false:=badP_of (p:=(k,[])) (by show 0≤opn k;omega) (by show opn k≤d+1;omega) (fun h=>absurd h hk) (fun _=>rfl)
  simp only [List.cons_append,List.nil_append,rGo,hb,ho]
  simp
 ·rcases List.mem_append.1 hp with h | h
  ·exact he.2 p h
  ·simp at h;subst h;exact shortP.nil k
theorem goodF.bi {e e2:List Prt} {k:Int} (he:goodF e) (he2:goodF e2) (ho:opn k=2):goodF (e++e2++[(k,[])]):=by
 refine ⟨fun r d hd=>?_,fun p hp=>?_⟩
 ·rw [List.append_assoc,List.append_assoc,he.1 _ d hd,he2.1 _ (d+1) (by omega)]
  have hk:k≠3:=ne3 ho (by omega)
  have hb:badP rightE ((k,[]):Prt) (d+1+1)=false:=badP_of (p:=(k,[])) (by show 0≤opn k;omega) (by show opn k≤d+1+1;omega) (fun h=>absurd h hk) (fun _=>rfl)
  simp only [List.cons_append,List.nil_append,rGo,hb,ho]
  simp;congr 1;omega
 ·rcases List.mem_append.1 hp with h | h
  ·rcases List.mem_append.1 h with h | h
   ·exact he.2 p h
   ·exact he2.2 p h
  ·simp at h;subst h;exact shortP.nil k
theorem goodF.right {e:List Prt} (h:goodF e) (hl:e.length≤60):rightF rightE e=true:=by
 have:=h.1 [] 0 (by omega)
 rw [List.append_nil] at this
 unfold rightF
 rw [this]
 simp [rGo,hl]
theorem eGo_may:∀ (e:List Trm) (d n:Int),eGo e d=some n→∀ t∈e,mayT t=true
 | [],d,n,h,t,ht=>by simp at ht
 | p::r,d,n,h,t,ht=>by
   simp only [eGo] at h
   split at h
   ·cases h
   ·rename_i hc
    simp only [Bool.or_eq_true,Bool.not_eq_true',not_or,Bool.not_eq_false] at hc
    rcases List.mem_cons.1 ht with rfl | ht
    ·exact hc.1
    ·exact eGo_may r _ n h t ht
theorem word_len {w:List UInt8} (h:isWordP w=true):w.length≤8:=by
 cases w with
 | nil=>simp
 | cons b r=>
   simp only [isWordP,Bool.and_eq_true,decide_eq_true_eq] at h
   simpa using h.2
theorem may_len {t:Trm} (h:mayT t=true):t.2.2.1.length≤8∧t.2.2.2.length≤8:=by
 unfold mayT at h
 split at h
 ·simp only [Bool.and_eq_true,beq_iff_eq] at h
  rw [h.1.2,h.2];simp
 ·split at h
  ·simp only [Bool.and_eq_true,beq_iff_eq] at h
   rw [h.2];exact ⟨word_len h.1.2,by simp⟩
  ·split at h
   ·simp only [Bool.and_eq_true] at h
    exact ⟨word_len h.1.2,word_len h.2⟩
   ·simp only [Bool.and_eq_true,beq_iff_eq] at h
    rw [h.1.2,h.2];simp
theorem rightE_short {e:List Trm} (h:rightE e=true):e.length≤30∧∀ t∈e,t.2.2.1.length≤8∧t.2.2.2.length≤8:=by
 unfold rightE fin30 at h
 cases hg:eGo e 0 with
 | none=>rw [hg] at h;cases h
 | some d=>
   rw [hg] at h
   simp only [Bool.and_eq_true,decide_eq_true_eq] at h
   exact ⟨h.2,fun t ht=>may_len (eGo_may e 0 d hg t ht)⟩
def txF (l:List Tok) (a:Nat):List UInt8:=if (tkD l a).1≠1 then (tkD l a).2.1 else []
def impW (w:List UInt8):Int:=if w=[45,62] then 7 else 0
def untW (w:List UInt8):Int:=if w=[85] then 9 else if w=[82] then 10 else 0
def ahdW (w:List UInt8):Int:=if w=[33] then 4 else if w=[88] then 8 else if w=[70] then 11 else if w=[71] then 12 else 0
def sgF (n:Nat) (w:List UInt8):Int:=
 if n=1 then impW w else if n=2 then (if w=[124,124] then 6 else 0) else if n=3 then (if w=[38,38] then 5 else 0) else if n=4 then untW w else if n=5 then ahdW w else 0
inductive FSt where
 | lv (n a:Nat)
 | lp (n b:Nat) (e:List Prt)
inductive FRs where
 | ok (b:Nat) (e:List Prt)
 | bad (k:Nat) (c:Int)
def onF (r:Option FRs) (f:Nat→List Prt→Option FRs):Option FRs:=match r with
 | some (.ok b e)=>f b e
 | some (.bad k c)=>some (.bad k c)
 | none=>none
def exF (l:List Tok) (a:Nat):PR→FRs
 | .bad k=>.bad k 2
 | .ok b e=>if 30<e.length then .bad a 13 else if txF l b=[93] then .ok (b+1) [(3,e)] else .bad b 2
def goF (l:List Tok):Nat→FSt→Option FRs
 | 0,_=>none
 | d+1,.lv n a=>
   if n=1∨n=4 then onF (goF l d (.lv (n+1) a)) fun b e=>if sgF n (txF l b)=0 then some (.ok b e) else onF (goF l d (.lv n (b+1))) fun c e2=>some (.ok c (e++e2++[(sgF n (txF l b),[])]))
   else if n=2∨n=3 then onF (goF l d (.lv (n+1) a)) fun b e=>goF l d (.lp n b e)
   else if n=5 then if sgF 5 (txF l a)=0 then goF l d (.lv 6 a) else onF (goF l d (.lv 5 (a+1))) fun b e=>some (.ok b (e++[(sgF 5 (txF l a),[])]))
   else if txF l a=[116,114,117,101] then some (.ok (a+1) [(1,[])])
   else if txF l a=[102,97,108,115,101] then some (.ok (a+1) [(2,[])])
   else if txF l a=[91] then (go l d (.lv 1 (a+1))).map (exF l a)
   else if txF l a=[40] then onF (goF l d (.lv 1 (a+1))) fun b e=>if txF l b=[41] then some (.ok (b+1) e) else some (.bad b 2)
   else some (.bad a 2)
 | d+1,.lp n b e=>if sgF n (txF l b)=0 then some (.ok b e) else onF (goF l d (.lv (n+1) (b+1))) fun c e2=>goF l d (.lp n c (e++e2++[(sgF n (txF l b),[])]))
def PF (l:List Tok) (s:FSt) (r:FRs):Prop:=∃ d0,∀ d,d0≤d→goF l d s=some r
theorem PF.det {l:List Tok} {s:FSt} {r r':FRs} (h:PF l s r) (h':PF l s r'):r=r':=by
 obtain ⟨d,h⟩:=h
 obtain ⟨d',h'⟩:=h'
 have h1:=h (d+d') (by omega)
 have h2:=h' (d+d') (by omega)
 rw [h1] at h2
 exact Option.some.inj h2
theorem PF.run {l:List Tok} {s:FSt} {r:FRs} (h:PF l s r):∃ d,goF l d s=some r:=by
 obtain ⟨d,h⟩:=h
 exact ⟨d,h d (Nat.le_refl _)⟩
section
variable {l:List Tok}
theorem pf1 {s:FSt} {r:FRs} (h:∀ d,goF l (d+1) s=some r):PF l s r:=⟨1,fun d hd=>by
 obtain ⟨g,rfl⟩:∃ g,d=g+1:=⟨d-1,by omega⟩
 exact h g⟩
theorem pf2 {s s1:FSt} {r r1:FRs} (h1:PF l s1 r1) (h:∀ d,goF l d s1=some r1→goF l (d+1) s=some r):PF l s r:=by
 obtain ⟨d0,h1⟩:=h1
 exact ⟨d0+1,fun d hd=>by
  obtain ⟨g,rfl⟩:∃ g,d=g+1:=⟨d-1,by omega⟩
  exact h g (h1 g (by omega))⟩
theorem pf3 {s s1 s2:FSt} {r r1 r2:FRs} (h1:PF l s1 r1) (h2:PF l s2 r2) (h:∀ d,goF l d s1=some r1→goF l d s2=some r2→goF l (d+1) s=some r):PF l s r:=by
 obtain ⟨d1,h1⟩:=h1
 obtain ⟨d2,h2⟩:=h2
 exact ⟨d1+d2+1,fun d hd=>by
  obtain ⟨g,rfl⟩:∃ g,d=g+1:=⟨d-1,by omega⟩
  exact h g (h1 g (by omega)) (h2 g (by omega))⟩
theorem pf_bad {n a k:Nat} {c:Int} (hn:n≤4) (h1:1≤n) (h:PF l (.lv (n+1) a) (.bad k c)):PF l (.lv n a) (.bad k c):=pf2 h fun d h=>by
 rw [goF]
 by_cases h14:n=1∨n=4
 ·rw [if_pos h14,h];rfl
 ·rw [if_neg h14,if_pos (by omega),h];rfl
theorem pf_r0 {n a b:Nat} {e:List Prt} (hn:n=1∨n=4) (h:PF l (.lv (n+1) a) (.ok b e)) (hs:sgF n (txF l b)=0):PF l (.lv n a) (.ok b e):=pf2 h fun d h=>by
 rw [goF,if_pos hn,h]
 show (if _ then _ else _)=_
 rw [if_pos hs]
theorem pf_rb {n a b k:Nat} {c:Int} {e:List Prt} (hn:n=1∨n=4) (h:PF l (.lv (n+1) a) (.ok b e)) (hs:sgF n (txF l b)≠0) (h2:PF l (.lv n (b+1)) (.bad k c)):PF l (.lv n a) (.bad k c):=pf3 h h2 fun d h h2=>by
 rw [goF,if_pos hn,h]
 show (if _ then _ else _)=_
 rw [if_neg hs,h2];rfl
theorem pf_r1 {n a b c:Nat} {e e2:List Prt} (hn:n=1∨n=4) (h:PF l (.lv (n+1) a) (.ok b e)) (hs:sgF n (txF l b)≠0) (h2:PF l (.lv n (b+1)) (.ok c e2)):PF l (.lv n a) (.ok c (e++e2++[(sgF n (txF l b),[])])):=pf3 h h2 fun d h h2=>by
 rw [goF,if_pos hn,h]
 show (if _ then _ else _)=_
 rw [if_neg hs,h2];rfl
theorem pf_l {n a b:Nat} {e:List Prt} {r:FRs} (hn:n=2∨n=3) (h:PF l (.lv (n+1) a) (.ok b e)) (h2:PF l (.lp n b e) r):PF l (.lv n a) r:=pf3 h h2 fun d h h2=>by
 rw [goF,if_neg (by omega),if_pos hn,h];exact h2
theorem pf_stop {n b:Nat} {e:List Prt} (h:sgF n (txF l b)=0):PF l (.lp n b e) (.ok b e):=pf1 fun d=>by rw [goF,if_pos h]
theorem pf_lpbad {n b k:Nat} {c:Int} {e:List Prt} (hs:sgF n (txF l b)≠0) (h:PF l (.lv (n+1) (b+1)) (.bad k c)):PF l (.lp n b e) (.bad k c):=pf2 h fun d h=>by rw [goF,if_neg hs,h];rfl
theorem pf_more {n b c:Nat} {e e2:List Prt} {r:FRs} (hs:sgF n (txF l b)≠0) (h:PF l (.lv (n+1) (b+1)) (.ok c e2)) (h2:PF l (.lp n c (e++e2++[(sgF n (txF l b),[])])) r):PF l (.lp n b e) r:=pf3 h h2 fun d h h2=>by
 rw [goF,if_neg hs,h];exact h2
theorem pf_p0 {a:Nat} {r:FRs} (hs:sgF 5 (txF l a)=0) (h:PF l (.lv 6 a) r):PF l (.lv 5 a) r:=pf2 h fun d h=>by
 rw [goF,if_neg (by decide),if_neg (by decide),if_pos rfl,if_pos hs,h]
theorem pf_p1 {a b:Nat} {e:List Prt} (hs:sgF 5 (txF l a)≠0) (h:PF l (.lv 5 (a+1)) (.ok b e)):PF l (.lv 5 a) (.ok b (e++[(sgF 5 (txF l a),[])])):=pf2 h fun d h=>by
 rw [goF,if_neg (by decide),if_neg (by decide),if_pos rfl,if_neg hs,h];rfl
theorem pf_pb {a k:Nat} {c:Int} (hs:sgF 5 (txF l a)≠0) (h:PF l (.lv 5 (a+1)) (.bad k c)):PF l (.lv 5 a) (.bad k c):=pf2 h fun d h=>by
 rw [goF,if_neg (by decide),if_neg (by decide),if_pos rfl,if_neg hs,h];rfl
theorem pf_true {a:Nat} (h:txF l a=[116,114,117,101]):PF l (.lv 6 a) (.ok (a+1) [(1,[])]):=pf1 fun d=>by
 rw [goF,if_neg (by decide),if_neg (by decide),if_neg (by decide),if_pos h]
theorem pf_false {a:Nat} (h:txF l a=[102,97,108,115,101]):PF l (.lv 6 a) (.ok (a+1) [(2,[])]):=pf1 fun d=>by
 rw [goF,if_neg (by decide),if_neg (by decide),if_neg (by decide),if_neg (by rw [h];decide),if_pos h]
theorem pf_ex {a:Nat} {r:PR} (h:txF l a=[91]) (h2:PE l (.lv 1 (a+1)) r):PF l (.lv 6 a) (exF l a r):=by
 obtain ⟨d0,h2⟩:=h2
 refine ⟨d0+1,fun d hd=>?_⟩
 obtain ⟨g,rfl⟩:∃ g,d=g+1:=⟨d-1,by omega⟩
 rw [goF,if_neg (by decide),if_neg (by decide),if_neg (by decide),if_neg (by rw [h];decide),if_neg (by rw [h];decide),if_pos h,h2 g (by omega)]
 rfl
theorem pf_brab {a k:Nat} {c:Int} (h:txF l a=[40]) (h2:PF l (.lv 1 (a+1)) (.bad k c)):PF l (.lv 6 a) (.bad k c):=pf2 h2 fun d h2=>by
 rw [goF,if_neg (by decide),if_neg (by decide),if_neg (by decide),if_neg (by rw [h];decide),if_neg (by rw [h];decide),if_neg (by rw [h];decide),if_pos h,h2];rfl
theorem pf_bra {a b:Nat} {e:List Prt} (h:txF l a=[40]) (h2:PF l (.lv 1 (a+1)) (.ok b e)):PF l (.lv 6 a) (if txF l b=[41] then .ok (b+1) e else .bad b 2):=pf2 h2 fun d h2=>by
 rw [goF,if_neg (by decide),if_neg (by decide),if_neg (by decide),if_neg (by rw [h];decide),if_neg (by rw [h];decide),if_neg (by rw [h];decide),if_pos h,h2]
 show (if _ then _ else _)=_
 split<;>rfl
theorem pf_none {a:Nat} (h1:txF l a≠[116,114,117,101]) (h2:txF l a≠[102,97,108,115,101]) (h3:txF l a≠[91]) (h4:txF l a≠[40]):PF l (.lv 6 a) (.bad a 2):=pf1 fun d=>by
 rw [goF,if_neg (by decide),if_neg (by decide),if_neg (by decide),if_neg h1,if_neg h2,if_neg h3,if_neg h4]
theorem sgF_nil (n:Nat):sgF n []=0:=by
 unfold sgF
 split
 ·rfl
 split
 ·rfl
 split
 ·rfl
 split
 ·rfl
 split
 ·rfl
 rfl
theorem impW_op {w:List UInt8} (h:impW w≠0):opn (impW w)=2:=by
 unfold impW at h ⊢
 split
 ·rfl
 ·rename_i hw;rw [if_neg hw] at h;exact absurd rfl h
theorem untW_op {w:List UInt8} (h:untW w≠0):opn (untW w)=2:=by
 unfold untW at h ⊢
 split
 ·rfl
 ·rename_i hw
  rw [if_neg hw] at h
  split
  ·rfl
  ·rename_i hw;rw [if_neg hw] at h;exact absurd rfl h
theorem ahdW_op {w:List UInt8} (h:ahdW w≠0):opn (ahdW w)=1:=by
 unfold ahdW at h ⊢
 split
 ·rfl
 ·rename_i hw
  rw [if_neg hw] at h
  split
  ·rfl
  ·rename_i hw
   rw [if_neg hw] at h
   split
   ·rfl
   ·rename_i hw
    rw [if_neg hw] at h
    split
    ·rfl
    ·rename_i hw;rw [if_neg hw] at h;exact absurd rfl h
theorem qbj {n:Nat} {w:List UInt8} (h:sgF n w≠0):(n≤4→opn (sgF n w)=2)∧(n=5→opn (sgF n w)=1)∧w≠[]:=by
 refine ⟨fun hn=>?_,fun hn=>?_,fun hw=>h (by rw [hw];exact sgF_nil n)⟩
 ·unfold sgF at h ⊢
  by_cases h1:n=1
  ·rw [if_pos h1] at h ⊢;exact impW_op h
  rw [if_neg h1] at h ⊢
  by_cases h2:n=2
  ·rw [if_pos h2] at h ⊢
   split
   ·rfl
   ·rename_i hw;rw [if_neg hw] at h;exact absurd rfl h
  rw [if_neg h2] at h ⊢
  by_cases h3:n=3
  ·rw [if_pos h3] at h ⊢
   split
   ·rfl
   ·rename_i hw;rw [if_neg hw] at h;exact absurd rfl h
  rw [if_neg h3] at h ⊢
  by_cases h4:n=4
  ·rw [if_pos h4] at h ⊢;exact untW_op h
  rw [if_neg h4,if_neg (by omega)] at h
  exact absurd rfl h
 ·subst hn
  exact ahdW_op h
theorem qau (hl:toksOK l) {a:Nat} (ha:a<l.length) (h:txF l a≠[]):a+1<l.length:=by
 by_cases h5:(tkD l a).1=5
 ·exfalso
  apply h
  have hlast:=(qcs hl ha (Ty.dflt ty85)).2.2 h5
  obtain ⟨q,x,rfl,_⟩:=hl
  simp at hlast
  subst hlast
  unfold txF
  rw [show tkD (q++[(5,[],0,x)]) q.length=(5,[],0,x) from qat q _ [] _]
  rfl
 ·exact qas hl ha (Ty.dflt ty85) h5
def FSt.at:FSt→Nat
 | .lv _ a=>a
 | .lp _ b _=>b
def BdF (l:List Tok):FSt→FRs→Prop
 | .lp _ a e0,.ok b e=>a≤b∧b<l.length∧e.length≤e0.length+(b-a)∧(goodF e0→goodF e)
 | .lv _ a,.ok b e=>a<b∧b<l.length∧e.length≤b-a∧goodF e
 | s,.bad k c=>s.at≤k∧k<l.length∧(c=2∨c=13)
theorem qa4 {r:Option FRs} {f:Nat→List Prt→Option FRs} {q:FRs} (h:onF r f=some q):(∃ b e,r=some (.ok b e)∧f b e=some q)∨∃ k c,r=some (.bad k c)∧q=.bad k c:=by
 cases r with
 | none=>cases h
 | some x=>
   cases x with
   | ok b e=>exact .inl ⟨b,e,rfl,h⟩
   | bad k c=>exact .inr ⟨k,c,rfl,(Option.some.inj h).symm⟩
theorem qd0 (hl:toksOK l):∀ (d:Nat) (s:FSt) (r:FRs),(∀ n a,s=.lv n a→1≤n∧n≤6)→(∀ n b e,s=.lp n b e→n=2∨n=3)→s.at<l.length→goF l d s=some r→BdF l s r
 | 0,s,r,_,_,_,h=>by cases h
 | d+1,.lv n a,r,h1,_,ha,h=>by
   have ha:a<l.length:=ha
   have hn:=h1 n a rfl
   have lvH:∀ {n a:Nat} {r:FRs},1≤n→n≤6→a<l.length→goF l d (.lv n a)=some r→BdF l (.lv n a) r:=fun h1 h2 h3 h4=>qd0 hl d _ _ (fun _ _ e=>by cases e;exact ⟨h1,h2⟩) (fun _ _ _ e=>by cases e) h3 h4
   rw [goF] at h
   split at h
   ·rename_i h14
    rcases qa4 h with ⟨b,e,g1,g2⟩ | ⟨k,c,g1,rfl⟩
    ·obtain ⟨i1,i2,i3,i4⟩:=lvH (by omega) (by omega) ha g1
     split at g2
     ·cases g2;exact ⟨i1,i2,i3,i4⟩
     ·rename_i hs
      have hb1:=qau hl i2 (qbj hs).2.2
      rcases qa4 g2 with ⟨c,e2,j1,j2⟩ | ⟨k,c,j1,rfl⟩
      ·obtain ⟨k1,k2,k3,k4⟩:=lvH (by omega) (by omega) hb1 j1
       cases j2
       exact ⟨by omega,k2,by simp;omega,i4.bi k4 ((qbj hs).1 (by omega))⟩
      ·obtain ⟨k1,k2⟩:=lvH (by omega) (by omega) hb1 j1
       have k1:b+1≤k:=k1
       exact ⟨by show a≤k;omega,k2⟩
    ·have:=lvH (n:=n+1) (by omega) (by omega) ha g1
     exact this
   ·split at h
    ·rename_i h23
     rcases qa4 h with ⟨b,e,g1,g2⟩ | ⟨k,c,g1,rfl⟩
     ·obtain ⟨i1,i2,i3,i4⟩:=lvH (by omega) (by omega) ha g1
      have:=qd0 hl d (.lp n b e) r (fun _ _ e=>by cases e) (fun _ _ _ e=>by cases e;exact h23) i2 g2
      cases r with
      | ok c e'=>
        obtain ⟨k1,k2,k3,k4⟩:=this
        exact ⟨by omega,k2,by omega,k4 i4⟩
      | bad k c=>
        obtain ⟨k1,k2⟩:=this
        have k1:b≤k:=k1
        exact ⟨by show a≤k;omega,k2⟩
     ·have:=lvH (n:=n+1) (by omega) (by omega) ha g1
      exact this
    ·split at h
     ·split at h
      ·have:=lvH (by omega) (by omega) ha h
       cases r<;>exact this
      ·rename_i hs
       have hb1:=qau hl ha (qbj hs).2.2
       rcases qa4 h with ⟨b,e,g1,g2⟩ | ⟨k,c,g1,rfl⟩
       ·obtain ⟨i1,i2,i3,i4⟩:=lvH (by omega) (by omega) hb1 g1
        cases g2
        exact ⟨by omega,i2,by simp;omega,i4.un ((qbj hs).2.1 rfl)⟩
       ·obtain ⟨k1,k2⟩:=lvH (by omega) (by omega) hb1 g1
        have k1:a+1≤k:=k1
        exact ⟨by show a≤k;omega,k2⟩
     ·split at h
      ·rename_i ht
       cases h
       exact ⟨by omega,qau hl ha (by rw [ht];decide),by simp,goodF.nul rfl (fun h=>(by cases h)) (fun _=>rfl) (shortP.nil 1)⟩
      ·split at h
       ·rename_i ht
        cases h
        exact ⟨by omega,qau hl ha (by rw [ht];decide),by simp,goodF.nul rfl (fun h=>(by cases h)) (fun _=>rfl) (shortP.nil 2)⟩
       ·split at h
        ·rename_i ht
         have hb1:=qau hl ha (by rw [ht];decide)
         cases hg:go l d (.lv 1 (a+1)) with
         | none=>rw [hg] at h;cases h
         | some q=>
           rw [hg] at h
           cases h
           have:=qct hl d (.lv 1 (a+1)) q (Nat.le_refl 1) hb1 hg
           cases q with
           | bad k=>
             obtain ⟨k1,k2⟩:=this
             have k1:a+1≤k:=k1
             exact ⟨by show a≤k;omega,k2,.inl rfl⟩
           | ok b e=>
             obtain ⟨k1,k2,k3,k4⟩:=this
             have k1:a+1<b:=k1
             have k3:e.length≤b-(a+1):=k3
             show BdF l (.lv n a) (if 30<e.length then .bad a 13 else if txF l b=[93] then .ok (b+1) [(3,e)] else .bad b 2)
             split
             ·exact ⟨by show a≤a;omega,ha,.inr rfl⟩
             ·split
              ·rename_i h30 hb
               have hr:=k4.right (by omega)
               exact ⟨by omega,qau hl k2 (by rw [hb];decide),by simp;omega,goodF.nul rfl (fun _=>hr) (fun h=>absurd rfl h) (rightE_short hr)⟩
              ·exact ⟨by show a≤b;omega,k2,.inl rfl⟩
        ·split at h
         ·rename_i ht
          have hb1:=qau hl ha (by rw [ht];decide)
          rcases qa4 h with ⟨b,e,g1,g2⟩ | ⟨k,c,g1,rfl⟩
          ·obtain ⟨i1,i2,i3,i4⟩:=lvH (by omega) (by omega) hb1 g1
           split at g2
           ·rename_i hb
            cases g2
            exact ⟨by omega,qau hl i2 (by rw [hb];decide),by omega,i4⟩
           ·cases g2
            exact ⟨by show a≤b;omega,i2,.inl rfl⟩
          ·obtain ⟨k1,k2⟩:=lvH (by omega) (by omega) hb1 g1
           have k1:a+1≤k:=k1
           exact ⟨by show a≤k;omega,k2⟩
         ·cases h
          exact ⟨Nat.le_refl a,ha,.inl rfl⟩
 | d+1,.lp n b e,r,_,h2,hb,h=>by
   have hb:b<l.length:=hb
   have hn:=h2 n b e rfl
   rw [goF] at h
   split at h
   ·cases h
    exact ⟨Nat.le_refl b,hb,by omega,id⟩
   ·rename_i hs
    have hb1:=qau hl hb (qbj hs).2.2
    rcases qa4 h with ⟨c,e2,g1,g2⟩ | ⟨k,c2,g1,rfl⟩
    ·obtain ⟨i1,i2,i3,i4⟩:=qd0 hl d (.lv (n+1) (b+1)) _ (fun _ _ e=>by cases e;omega) (fun _ _ _ e=>by cases e) hb1 g1
     have:=qd0 hl d (.lp n c _) r (fun _ _ e=>by cases e) (fun _ _ _ e=>by cases e;exact hn) i2 g2
     cases r with
     | ok c' e'=>
       obtain ⟨k1,k2,k3,k4⟩:=this
       simp only [List.length_append,List.length_cons,List.length_nil] at k3
       exact ⟨by omega,k2,by omega,fun hg=>k4 (hg.bi i4 ((qbj hs).1 (by omega)))⟩
     | bad k c3=>
       obtain ⟨k1,k2⟩:=this
       have k1:c≤k:=k1
       exact ⟨by show b≤k;omega,k2⟩
    ·obtain ⟨k1,k2⟩:=qd0 hl d (.lv (n+1) (b+1)) _ (fun _ _ e=>by cases e;omega) (fun _ _ _ e=>by cases e) hb1 g1
     have k1:b+1≤k:=k1
     exact ⟨by show b≤k;omega,k2⟩
theorem PF.bd (hl:toksOK l) {n a:Nat} {r:FRs} (h:PF l (.lv n a) r) (h1:1≤n) (h6:n≤6) (ha:a<l.length):BdF l (.lv n a) r:=by
 obtain ⟨d,h⟩:=h.run
 exact qd0 hl d _ r (fun _ _ e=>by cases e;exact ⟨h1,h6⟩) (fun _ _ _ e=>by cases e) ha h
end
theorem beqI {α:Type} (x w:List UInt8) (a b:α):cond (w == x) a b=if w=x then a else b:=by
 by_cases h:w=x
 ·rw [if_pos h,h];simp
 ·rw [if_neg h]
  have:(w == x)=false:=by simpa using h
  rw [this];rfl
theorem beqN {α:Type} (x w:List UInt8) (a b:α):cond (!(w == x)) a b=if w=x then b else a:=by
 by_cases h:w=x
 ·rw [if_pos h,h];simp
 ·rw [if_neg h]
  have:(w == x)=false:=by simpa using h
  rw [this];rfl
section
variable {l:List Tok}
theorem qa3 {a:Nat} (ha:a<l.length) (x:Int) (out:List Prt):M127 l a x out=some (txF l a,l,(a:Int),x,out):=by
 show T127 Ops.std l a x out some=_
 unfold T127 txF
 simp only [qam,qao,qa7,qaa,qaf,mt]
 rw [if_pos (by omega)]
 split<;>rfl
theorem qbk (op:Int) (a x:Int) (out:List Prt) (ho:out.length<300000):M128 op l a x out=some (true,l,a,x,out++[(op,[])]):=by
 show T128 Ops.std op l a x out some=_
 unfold T128
 simp only [qap,qaa,mt,List.length_cons,List.length_nil]
 rw [if_pos (by omega)]
theorem qbl (c a x:Int) (out:List Prt):M151 c l a x out=some (false,l,a,c,out):=rfl
theorem impF_prog (w:List UInt8):M115 w=some (impW w):=by
 show T115 Ops.std w some=_
 unfold T115 impW
 simp only [beqI]
 split<;>rfl
theorem untF_prog (w:List UInt8):M143 w=some (untW w):=by
 show T143 Ops.std w some=_
 unfold T143 untW
 simp only [beqI]
 (repeat' split)<;>rfl
theorem ahdF_prog (w:List UInt8):M147 w=some (ahdW w):=by
 show T147 Ops.std w some=_
 unfold T147 ahdW
 simp only [beqI]
 (repeat' split)<;>rfl
def RsF (l:List Tok) (out:List Prt) (r:FRs) (o:Option (Bool×List Tok×Int×Int×List Prt)):Prop:=match r with
 | .ok b e=>o=some (true,l,(b:Int),0,out++e)
 | .bad k c=>∃ out',o=some (false,l,(k:Int),c,out')
abbrev FnOK (l:List Tok) (n c d:Nat) (f:List Tok→Int→Int→List Prt→Option (Bool×List Tok×Int×Int×List Prt)):Prop:=∀ (a:Nat) (out:List Prt),16*(l.length-a)+2*(7-n)<d+c→a<l.length→out.length+(l.length-a)<200000→∃ r,PF l (.lv n a) r∧RsF l out r (f l a 0 out)
abbrev opsP (ops:List Int):List Prt:=ops.map fun k=>(k,[])
noncomputable abbrev leFR (d:Nat):=R129 M127 M128 (Rec80 d).2.2.1
theorem leF_loop (hl:toksOK l) (hll:l.length≤60001) (d:Nat) (hn:FnOK l (2+1) 0 d (Rec80 d).2.2.1) (p2:List Tok) (p3 p4:Int) (p5:List Prt):∀ (t b m:Nat) (out e:List Prt),l.length-b≤t→t<m→16*(l.length-b)+2*(7-2)<d+2→b<l.length→out.length+e.length+(l.length-b)<200000→
  ∃ r,PF l (.lp 2 b e) r∧RsF l out r (leFR d [124,124] 6 p2 p3 p4 p5 m (.l0 l b 0 (out++e)))
 | t,b,0,out,e,ht,hm,hd,hb,ho=>by omega
 | 0,b,m+1,out,e,ht,hm,hd,hb,ho=>by omega
 | t+1,b,m+1,out,e,ht,hm,hd,hb,ho=>by
   have hU:leFR d [124,124] 6 p2 p3 p4 p5 (m+1) (.l0 l b 0 (out++e))=T129 Ops.std M127 M128 (Rec80 d).2.2.1 [124,124] 6 p2 p3 p4 p5 (leFR d [124,124] 6 p2 p3 p4 p5 m) some (some (.l0 l b 0 (out++e))):=rfl
   rw [hU]
   unfold T129
   have hw1:IntKind.wrap IntKind.i64 ((b:Int)+1)=((b+1:Nat):Int):=qah (by omega)
   have hsg:sgF 2 (txF l b)=if txF l b=[124,124] then 6 else 0:=rfl
   simp only [qa3 hb,ob_s,beqI,hw1]
   by_cases hs:txF l b=[124,124]
   ·rw [if_pos hs] at hsg
    have h0:sgF 2 (txF l b)≠0:=by rw [hsg];decide
    have hb1:=qau hl hb (by rw [hs];decide)
    rw [if_pos hs]
    obtain ⟨r,g1,g2⟩:=hn (b+1) (out++e) (by omega) hb1 (by simp;omega)
    cases r with
    | bad k c=>
      obtain ⟨out',g2⟩:=g2
      rw [g2,ob_s]
      exact ⟨_,pf_lpbad h0 g1,_,rfl⟩
    | ok c e2=>
      have g2:(Rec80 d).2.2.1 l ((b+1:Nat):Int) 0 (out++e)=some (true,l,(c:Int),0,out++e++e2):=g2
      obtain ⟨c1,c2,c3,_⟩:=g1.bd hl (by omega) (by omega) hb1
      rw [g2,ob_s]
      dsimp only
      simp only [Bool.not_true,cond_false]
      rw [qbk _ _ _ _ (by simp only [List.length_append];omega),ob_s]
      obtain ⟨r,j1,j2⟩:=leF_loop hl hll d hn p2 p3 p4 p5 t c m out (e++e2++[(6,[])]) (by omega) (by omega) (by omega) c2 (by simp;omega)
      have ea:out++(e++e2++[((6,[]):Prt)])=out++e++e2++[(6,[])]:=by simp
      rw [ea] at j2
      refine ⟨r,pf_more h0 g1 ?_,j2⟩
      rw [hsg]
      exact j1
   ·rw [if_neg hs] at hsg
    rw [if_neg hs]
    exact ⟨_,pf_stop hsg,rfl⟩
theorem leF_step (hl:toksOK l) (hll:l.length≤60001) (d:Nat) (hn:FnOK l (2+1) 0 d (Rec80 d).2.2.1):FnOK l 2 1 (d+1) (fun l a x out=>T129 Ops.std M127 M128 (Rec80 d).2.2.1 [124,124] 6 l a x out (leFR d [124,124] 6 l a x out 1000000) some none):=fun a out hd ha ho=>by
 dsimp only
 unfold T129
 obtain ⟨r,g1,g2⟩:=hn a out (by omega) ha ho
 cases r with
 | bad k c=>
   obtain ⟨out',g2⟩:=g2
   rw [g2,ob_s]
   exact ⟨_,pf_bad (by omega) (by omega) g1,_,rfl⟩
 | ok b e=>
   have g2:(Rec80 d).2.2.1 l (a:Int) 0 out=some (true,l,(b:Int),0,out++e):=g2
   obtain ⟨c1,c2,c3,_⟩:=g1.bd hl (by omega) (by omega) ha
   rw [g2,ob_s]
   dsimp only
   simp only [Bool.not_true,cond_false]
   obtain ⟨r,j1,j2⟩:=leF_loop hl hll d hn l a 0 out (l.length-b) b 1000000 out e (by omega) (by omega) (by omega) c2 (by omega)
   exact ⟨r,pf_l (by omega) g1 j1,j2⟩
noncomputable abbrev lbFR (d:Nat):=R180 M127 M128 (Rec80 d).2.2.2.1
theorem lbF_loop (hl:toksOK l) (hll:l.length≤60001) (d:Nat) (hn:FnOK l (3+1) 0 d (Rec80 d).2.2.2.1) (p2:List Tok) (p3 p4:Int) (p5:List Prt):∀ (t b m:Nat) (out e:List Prt),l.length-b≤t→t<m→16*(l.length-b)+2*(7-3)<d+2→b<l.length→out.length+e.length+(l.length-b)<200000→
  ∃ r,PF l (.lp 3 b e) r∧RsF l out r (lbFR d [38,38] 5 p2 p3 p4 p5 m (.l0 l b 0 (out++e)))
 | t,b,0,out,e,ht,hm,hd,hb,ho=>by omega
 | 0,b,m+1,out,e,ht,hm,hd,hb,ho=>by omega
 | t+1,b,m+1,out,e,ht,hm,hd,hb,ho=>by
   have hU:lbFR d [38,38] 5 p2 p3 p4 p5 (m+1) (.l0 l b 0 (out++e))=T180 Ops.std M127 M128 (Rec80 d).2.2.2.1 [38,38] 5 p2 p3 p4 p5 (lbFR d [38,38] 5 p2 p3 p4 p5 m) some (some (.l0 l b 0 (out++e))):=rfl
   rw [hU]
   unfold T180
   have hw1:IntKind.wrap IntKind.i64 ((b:Int)+1)=((b+1:Nat):Int):=qah (by omega)
   have hsg:sgF 3 (txF l b)=if txF l b=[38,38] then 5 else 0:=rfl
   simp only [qa3 hb,ob_s,beqI,hw1]
   by_cases hs:txF l b=[38,38]
   ·rw [if_pos hs] at hsg
    have h0:sgF 3 (txF l b)≠0:=by rw [hsg];decide
    have hb1:=qau hl hb (by rw [hs];decide)
    rw [if_pos hs]
    obtain ⟨r,g1,g2⟩:=hn (b+1) (out++e) (by omega) hb1 (by simp;omega)
    cases r with
    | bad k c=>
      obtain ⟨out',g2⟩:=g2
      rw [g2,ob_s]
      exact ⟨_,pf_lpbad h0 g1,_,rfl⟩
    | ok c e2=>
      have g2:(Rec80 d).2.2.2.1 l ((b+1:Nat):Int) 0 (out++e)=some (true,l,(c:Int),0,out++e++e2):=g2
      obtain ⟨c1,c2,c3,_⟩:=g1.bd hl (by omega) (by omega) hb1
      rw [g2,ob_s]
      dsimp only
      simp only [Bool.not_true,cond_false]
      rw [qbk _ _ _ _ (by simp only [List.length_append];omega),ob_s]
      obtain ⟨r,j1,j2⟩:=lbF_loop hl hll d hn p2 p3 p4 p5 t c m out (e++e2++[(5,[])]) (by omega) (by omega) (by omega) c2 (by simp;omega)
      have ea:out++(e++e2++[((5,[]):Prt)])=out++e++e2++[(5,[])]:=by simp
      rw [ea] at j2
      refine ⟨r,pf_more h0 g1 ?_,j2⟩
      rw [hsg]
      exact j1
   ·rw [if_neg hs] at hsg
    rw [if_neg hs]
    exact ⟨_,pf_stop hsg,rfl⟩
theorem lbF_step (hl:toksOK l) (hll:l.length≤60001) (d:Nat) (hn:FnOK l (3+1) 0 d (Rec80 d).2.2.2.1):FnOK l 3 1 (d+1) (fun l a x out=>T180 Ops.std M127 M128 (Rec80 d).2.2.2.1 [38,38] 5 l a x out (lbFR d [38,38] 5 l a x out 1000000) some none):=fun a out hd ha ho=>by
 dsimp only
 unfold T180
 obtain ⟨r,g1,g2⟩:=hn a out (by omega) ha ho
 cases r with
 | bad k c=>
   obtain ⟨out',g2⟩:=g2
   rw [g2,ob_s]
   exact ⟨_,pf_bad (by omega) (by omega) g1,_,rfl⟩
 | ok b e=>
   have g2:(Rec80 d).2.2.2.1 l (a:Int) 0 out=some (true,l,(b:Int),0,out++e):=g2
   obtain ⟨c1,c2,c3,_⟩:=g1.bd hl (by omega) (by omega) ha
   rw [g2,ob_s]
   dsimp only
   simp only [Bool.not_true,cond_false]
   obtain ⟨r,j1,j2⟩:=lbF_loop hl hll d hn l a 0 out (l.length-b) b 1000000 out e (by omega) (by omega) (by omega) c2 (by omega)
   exact ⟨r,pf_l (by omega) g1 j1,j2⟩
noncomputable abbrev rfFR (d:Nat):=R114 M127 M123 M128 M115 (Rec80 d).2.1
theorem rfF_back (hll:l.length≤60001) (d:Nat) (p0:List Tok) (p1 p2:Int) (p3:List Prt) (b:Nat):∀ (ops:List Int) (m:Nat) (rest:List Int) (out:List Prt),ops.length<m→out.length+ops.length<300000→
  rfFR d p0 p1 p2 p3 m (.l1010 ((ops.length:Nat)-1) l b 0 out (ops.reverse++rest))=some (true,l,(b:Int),0,out++opsP ops)
 | ops,0,rest,out,hm,ho=>by omega
 | [],m+1,rest,out,hm,ho=>by
  show T114 Ops.std _ _ _ _ _ p0 p1 p2 p3 _ some _=_
  unfold T114
  simp only [qak,qaa]
  rw [if_pos (by simp)]
  simp [opsP]
 | x::ops,m+1,rest,out,hm,ho=>by
   have ih:=rfF_back hll d p0 p1 p2 p3 b ops m (x::rest) (out++[(x,[])]) (by simpa using hm) (by simp at ho ⊢;omega)
   show T114 Ops.std _ _ _ _ _ p0 p1 p2 p3 _ some _=_
   unfold T114
   simp only [qak,qap,qaa,mt]
   have hi:(((x::ops).length:Nat):Int)-1=(ops.length:Nat):=by simp
   rw [hi,if_neg (by omega),if_pos (by simp;omega),qaf]
   have hg:((x::ops).reverse++rest).getD ops.length 0=x:=by
    rw [List.reverse_cons,List.append_assoc]
    have:=qat ops.reverse x rest 0
    rw [List.length_reverse] at this
    exact this
   rw [hg,qbk _ _ _ _ (by omega),ob_s,List.reverse_cons,List.append_assoc]
   have e:out++opsP (x::ops)=out++[(x,[])]++opsP ops:=by simp [opsP]
   rw [e]
   exact ih
theorem rfF_loop (hl:toksOK l) (hll:l.length≤60001) (d:Nat) (hn:FnOK l (1+1) 0 d (Rec80 d).2.1) (p0:List Tok) (p1 p2:Int) (p3:List Prt):∀ (t a m:Nat) (ops:List Int) (out:List Prt),l.length-a≤t→200000+t<m→16*(l.length-a)+2*(7-1)<d+2→a<l.length→ops.length+out.length+(l.length-a)<200000→
  ∃ r,PF l (.lv 1 a) r∧(match r with
    | .ok b e=>rfFR d p0 p1 p2 p3 m (.l0 l a 0 ops out)=some (true,l,(b:Int),0,out++e++opsP ops.reverse)
    | .bad k c=>∃ out',rfFR d p0 p1 p2 p3 m (.l0 l a 0 ops out)=some (false,l,(k:Int),c,out'))
 | t,a,0,ops,out,ht,hm,hd,ha,ho=>by omega
 | 0,a,m+1,ops,out,ht,hm,hd,ha,ho=>by omega
 | t+1,a,m+1,ops,out,ht,hm,hd,ha,ho=>by
   have hU:rfFR d p0 p1 p2 p3 (m+1) (.l0 l a 0 ops out)=T114 Ops.std M127 M123 M128 M115 (Rec80 d).2.1 p0 p1 p2 p3 (rfFR d p0 p1 p2 p3 m) some (some (.l0 l a 0 ops out)):=rfl
   rw [hU]
   unfold T114
   obtain ⟨r,g1,g2⟩:=hn a out (by omega) ha (by omega)
   cases r with
   | bad k c=>
     obtain ⟨out',g2⟩:=g2
     dsimp only
     rw [g2,ob_s]
     exact ⟨_,pf_bad (by omega) (by omega) g1,_,rfl⟩
   | ok b e=>
     have g2:(Rec80 d).2.1 l (a:Int) 0 out=some (true,l,(b:Int),0,out++e):=g2
     obtain ⟨c1,c2,c3,_⟩:=g1.bd hl (by omega) (by omega) ha
     have hw1:IntKind.wrap IntKind.i64 ((b:Int)+1)=((b+1:Nat):Int):=qah (by omega)
     have hsg:sgF 1 (txF l b)=impW (txF l b):=rfl
     simp only [g2,ob_s,Bool.not_true,cond_false,qa3 c2,impF_prog,qao,qap,qaa,mt,List.length_cons,List.length_nil,hw1,qc4]
     by_cases hs:impW (txF l b)=0
     ·rw [if_pos hs]
      refine ⟨_,pf_r0 (by omega) g1 (hsg.trans hs),?_⟩
      have:=rfF_back hll d p0 p1 p2 p3 b ops.reverse m [] (out++e) (by simp;omega) (by simp;omega)
      simp only [List.reverse_reverse,List.append_nil,List.length_reverse] at this
      exact this
     ·have h0:sgF 1 (txF l b)≠0:=by rw [hsg];exact hs
      have hb1:=qau hl c2 (qbj h0).2.2
      rw [if_neg hs,if_pos (by omega)]
      obtain ⟨r,j1,j2⟩:=rfF_loop hl hll d hn p0 p1 p2 p3 t (b+1) m (ops++[impW (txF l b)]) (out++e) (by omega) (by omega) (by omega) hb1 (by simp;omega)
      cases r with
      | bad k c=>exact ⟨_,pf_rb (by omega) g1 h0 j1,j2⟩
      | ok c e2=>
        refine ⟨_,pf_r1 (by omega) g1 h0 j1,j2.trans ?_⟩
        rw [hsg]
        simp [opsP]
theorem rfF_step (hl:toksOK l) (hll:l.length≤60001) (d:Nat) (hn:FnOK l (1+1) 0 d (Rec80 d).2.1):FnOK l 1 1 (d+1) (fun l a x out=>T114 Ops.std M127 M123 M128 M115 (Rec80 d).2.1 l a x out (rfFR d l a x out 1000000) some none):=fun a out hd ha ho=>by
 dsimp only
 unfold T114
 simp only [mt]
 obtain ⟨r,g1,g2⟩:=rfF_loop hl hll d hn l a 0 out (l.length-a) a 1000000 [] out (by omega) (by omega) (by omega) ha (by simp;omega)
 refine ⟨r,g1,?_⟩
 cases r with
 | bad k c=>exact g2
 | ok b e=>
   refine g2.trans ?_
   simp [opsP]
noncomputable abbrev ruFR (d:Nat):=R179 M127 M123 M128 M143 (Rec80 d).2.2.2.2.1
theorem ruF_back (hll:l.length≤60001) (d:Nat) (p0:List Tok) (p1 p2:Int) (p3:List Prt) (b:Nat):∀ (ops:List Int) (m:Nat) (rest:List Int) (out:List Prt),ops.length<m→out.length+ops.length<300000→
  ruFR d p0 p1 p2 p3 m (.l1010 ((ops.length:Nat)-1) l b 0 out (ops.reverse++rest))=some (true,l,(b:Int),0,out++opsP ops)
 | ops,0,rest,out,hm,ho=>by omega
 | [],m+1,rest,out,hm,ho=>by
  show T179 Ops.std _ _ _ _ _ p0 p1 p2 p3 _ some _=_
  unfold T179
  simp only [qak,qaa]
  rw [if_pos (by simp)]
  simp [opsP]
 | x::ops,m+1,rest,out,hm,ho=>by
   have ih:=ruF_back hll d p0 p1 p2 p3 b ops m (x::rest) (out++[(x,[])]) (by simpa using hm) (by simp at ho ⊢;omega)
   show T179 Ops.std _ _ _ _ _ p0 p1 p2 p3 _ some _=_
   unfold T179
   simp only [qak,qap,qaa,mt]
   have hi:(((x::ops).length:Nat):Int)-1=(ops.length:Nat):=by simp
   rw [hi,if_neg (by omega),if_pos (by simp;omega),qaf]
   have hg:((x::ops).reverse++rest).getD ops.length 0=x:=by
    rw [List.reverse_cons,List.append_assoc]
    have:=qat ops.reverse x rest 0
    rw [List.length_reverse] at this
    exact this
   rw [hg,qbk _ _ _ _ (by omega),ob_s,List.reverse_cons,List.append_assoc]
   have e:out++opsP (x::ops)=out++[(x,[])]++opsP ops:=by simp [opsP]
   rw [e]
   exact ih
theorem ruF_loop (hl:toksOK l) (hll:l.length≤60001) (d:Nat) (hn:FnOK l (4+1) 0 d (Rec80 d).2.2.2.2.1) (p0:List Tok) (p1 p2:Int) (p3:List Prt):∀ (t a m:Nat) (ops:List Int) (out:List Prt),l.length-a≤t→200000+t<m→16*(l.length-a)+2*(7-4)<d+2→a<l.length→ops.length+out.length+(l.length-a)<200000→
  ∃ r,PF l (.lv 4 a) r∧(match r with
    | .ok b e=>ruFR d p0 p1 p2 p3 m (.l0 l a 0 ops out)=some (true,l,(b:Int),0,out++e++opsP ops.reverse)
    | .bad k c=>∃ out',ruFR d p0 p1 p2 p3 m (.l0 l a 0 ops out)=some (false,l,(k:Int),c,out'))
 | t,a,0,ops,out,ht,hm,hd,ha,ho=>by omega
 | 0,a,m+1,ops,out,ht,hm,hd,ha,ho=>by omega
 | t+1,a,m+1,ops,out,ht,hm,hd,ha,ho=>by
   have hU:ruFR d p0 p1 p2 p3 (m+1) (.l0 l a 0 ops out)=T179 Ops.std M127 M123 M128 M143 (Rec80 d).2.2.2.2.1 p0 p1 p2 p3 (ruFR d p0 p1 p2 p3 m) some (some (.l0 l a 0 ops out)):=rfl
   rw [hU]
   unfold T179
   obtain ⟨r,g1,g2⟩:=hn a out (by omega) ha (by omega)
   cases r with
   | bad k c=>
     obtain ⟨out',g2⟩:=g2
     dsimp only
     rw [g2,ob_s]
     exact ⟨_,pf_bad (by omega) (by omega) g1,_,rfl⟩
   | ok b e=>
     have g2:(Rec80 d).2.2.2.2.1 l (a:Int) 0 out=some (true,l,(b:Int),0,out++e):=g2
     obtain ⟨c1,c2,c3,_⟩:=g1.bd hl (by omega) (by omega) ha
     have hw1:IntKind.wrap IntKind.i64 ((b:Int)+1)=((b+1:Nat):Int):=qah (by omega)
     have hsg:sgF 4 (txF l b)=untW (txF l b):=rfl
     simp only [g2,ob_s,Bool.not_true,cond_false,qa3 c2,untF_prog,qao,qap,qaa,mt,List.length_cons,List.length_nil,hw1,qc4]
     by_cases hs:untW (txF l b)=0
     ·rw [if_pos hs]
      refine ⟨_,pf_r0 (by omega) g1 (hsg.trans hs),?_⟩
      have:=ruF_back hll d p0 p1 p2 p3 b ops.reverse m [] (out++e) (by simp;omega) (by simp;omega)
      simp only [List.reverse_reverse,List.append_nil,List.length_reverse] at this
      exact this
     ·have h0:sgF 4 (txF l b)≠0:=by rw [hsg];exact hs
      have hb1:=qau hl c2 (qbj h0).2.2
      rw [if_neg hs,if_pos (by omega)]
      obtain ⟨r,j1,j2⟩:=ruF_loop hl hll d hn p0 p1 p2 p3 t (b+1) m (ops++[untW (txF l b)]) (out++e) (by omega) (by omega) (by omega) hb1 (by simp;omega)
      cases r with
      | bad k c=>exact ⟨_,pf_rb (by omega) g1 h0 j1,j2⟩
      | ok c e2=>
        refine ⟨_,pf_r1 (by omega) g1 h0 j1,j2.trans ?_⟩
        rw [hsg]
        simp [opsP]
theorem ruF_step (hl:toksOK l) (hll:l.length≤60001) (d:Nat) (hn:FnOK l (4+1) 0 d (Rec80 d).2.2.2.2.1):FnOK l 4 1 (d+1) (fun l a x out=>T179 Ops.std M127 M123 M128 M143 (Rec80 d).2.2.2.2.1 l a x out (ruFR d l a x out 1000000) some none):=fun a out hd ha ho=>by
 dsimp only
 unfold T179
 simp only [mt]
 obtain ⟨r,g1,g2⟩:=ruF_loop hl hll d hn l a 0 out (l.length-a) a 1000000 [] out (by omega) (by omega) (by omega) ha (by simp;omega)
 refine ⟨r,g1,?_⟩
 cases r with
 | bad k c=>exact g2
 | ok b e=>
   refine g2.trans ?_
   simp [opsP]
noncomputable abbrev prfR (d:Nat):=R144 M127 M147 (Rec80 d).2.2.2.2.2.1 M123 M128
theorem prf_back (hll:l.length≤60001) (d:Nat) (p0:List Tok) (p1 p2:Int) (p3:List Prt) (b:Nat):∀ (ops:List Int) (m:Nat) (rest:List Int) (out:List Prt),ops.length<m→out.length+ops.length<300000→
  prfR d p0 p1 p2 p3 m (.l1011 ((ops.length:Nat)-1) l b 0 out (ops.reverse++rest))=some (true,l,(b:Int),0,out++opsP ops)
 | ops,0,rest,out,hm,ho=>by omega
 | [],m+1,rest,out,hm,ho=>by
  show T144 Ops.std _ _ _ _ _ p0 p1 p2 p3 _ some _=_
  unfold T144
  simp only [qak,qaa]
  rw [if_pos (by simp)]
  simp [opsP]
 | x::ops,m+1,rest,out,hm,ho=>by
   have ih:=prf_back hll d p0 p1 p2 p3 b ops m (x::rest) (out++[(x,[])]) (by simpa using hm) (by simp at ho ⊢;omega)
   show T144 Ops.std _ _ _ _ _ p0 p1 p2 p3 _ some _=_
   unfold T144
   simp only [qak,qap,qaa,mt]
   have hi:(((x::ops).length:Nat):Int)-1=(ops.length:Nat):=by simp
   rw [hi,if_neg (by omega),if_pos (by simp;omega),qaf]
   have hg:((x::ops).reverse++rest).getD ops.length 0=x:=by
    rw [List.reverse_cons,List.append_assoc]
    have:=qat ops.reverse x rest 0
    rw [List.length_reverse] at this
    exact this
   rw [hg,qbk _ _ _ _ (by omega),ob_s,List.reverse_cons,List.append_assoc]
   have e:out++opsP (x::ops)=out++[(x,[])]++opsP ops:=by simp [opsP]
   rw [e]
   exact ih
theorem prf_loop (hl:toksOK l) (hll:l.length≤60001) (d:Nat) (hn:FnOK l 6 0 d (Rec80 d).2.2.2.2.2.1) (p0:List Tok) (p1 p2:Int) (p3:List Prt):∀ (t a m:Nat) (ops:List Int) (out:List Prt),l.length-a≤t→200000+t<m→16*(l.length-a)+4<d+1→a<l.length→ops.length+out.length+(l.length-a)<200000→
  ∃ r,PF l (.lv 5 a) r∧(match r with
    | .ok b e=>prfR d p0 p1 p2 p3 m (.l0 (sgF 5 (txF l a)) l a 0 ops out)=some (true,l,(b:Int),0,out++e++opsP ops.reverse)
    | .bad k c=>∃ out',prfR d p0 p1 p2 p3 m (.l0 (sgF 5 (txF l a)) l a 0 ops out)=some (false,l,(k:Int),c,out'))
 | t,a,0,ops,out,ht,hm,hd,ha,ho=>by omega
 | 0,a,m+1,ops,out,ht,hm,hd,ha,ho=>by omega
 | t+1,a,m+1,ops,out,ht,hm,hd,ha,ho=>by
   have hU:prfR d p0 p1 p2 p3 (m+1) (.l0 (sgF 5 (txF l a)) l a 0 ops out)=T144 Ops.std M127 M147 (Rec80 d).2.2.2.2.2.1 M123 M128 p0 p1 p2 p3 (prfR d p0 p1 p2 p3 m) some (some (.l0 (sgF 5 (txF l a)) l a 0 ops out)):=rfl
   rw [hU]
   unfold T144
   have hw1:IntKind.wrap IntKind.i64 ((a:Int)+1)=((a+1:Nat):Int):=qah (by omega)
   simp only [qao,qap,qa7,qaa,mt,List.length_cons,List.length_nil,hw1,qc4,ahdF_prog,ob_s]
   by_cases hs:sgF 5 (txF l a)=0
   ·rw [if_neg (fun h=>h hs)]
    obtain ⟨r,g1,g2⟩:=hn a out (by omega) ha (by omega)
    refine ⟨r,pf_p0 hs g1,?_⟩
    cases r with
    | bad k c=>
      obtain ⟨out',g2⟩:=g2
      rw [g2,ob_s]
      exact ⟨_,rfl⟩
    | ok b e=>
      have g2:(Rec80 d).2.2.2.2.2.1 l (a:Int) 0 out=some (true,l,(b:Int),0,out++e):=g2
      obtain ⟨c1,c2,c3,_⟩:=g1.bd hl (by omega) (by omega) ha
      rw [g2,ob_s]
      dsimp only
      simp only [Bool.not_true,cond_false]
      have:=prf_back hll d p0 p1 p2 p3 b ops.reverse m [] (out++e) (by simp;omega) (by simp;omega)
      simp only [List.reverse_reverse,List.append_nil,List.length_reverse] at this
      exact this
   ·have ha1:=qau hl ha (qbj hs).2.2
    rw [if_pos hs,if_pos (by omega),qa3 ha1,ob_s]
    dsimp only
    obtain ⟨r,j1,j2⟩:=prf_loop hl hll d hn p0 p1 p2 p3 t (a+1) m (ops++[sgF 5 (txF l a)]) out (by omega) (by omega) (by omega) ha1 (by simp;omega)
    cases r with
    | bad k c=>exact ⟨_,pf_pb hs j1,j2⟩
    | ok b e=>
      refine ⟨_,pf_p1 hs j1,j2.trans ?_⟩
      simp [opsP]
theorem prf_step (hl:toksOK l) (hll:l.length≤60001) (d:Nat) (hn:FnOK l 6 0 d (Rec80 d).2.2.2.2.2.1):FnOK l 5 0 (d+1) (fun l a x out=>T144 Ops.std M127 M147 (Rec80 d).2.2.2.2.2.1 M123 M128 l a x out (prfR d l a x out 1000000) some none):=fun a out hd ha ho=>by
 dsimp only
 unfold T144
 simp only [mt,qa3 ha,ob_s,ahdF_prog]
 obtain ⟨r,g1,g2⟩:=prf_loop hl hll d hn l a 0 out (l.length-a) a 1000000 [] out (by omega) (by omega) (by omega) ha (by simp;omega)
 refine ⟨r,g1,?_⟩
 cases r with
 | bad k c=>exact g2
 | ok b e=>
   refine g2.trans ?_
   simp [opsP]
theorem expF_prog (hl:toksOK l) (hll:l.length≤60001) {a:Nat} (ha:a<l.length) (ht:txF l a=[91]) (out:List Prt) (ho:out.length<200000):∃ r,PF l (.lv 6 a) r∧RsF l out r (M149 l a 0 out):=by
 have ha1:=qau hl ha (by rw [ht];decide)
 have hM:M149 l a 0 out=T149 Ops.std M25 M151 M127 l a 0 out some:=rfl
 rw [hM]
 unfold T149
 have hw1:IntKind.wrap IntKind.i64 ((a:Int)+1)=((a+1:Nat):Int):=qah (by omega)
 obtain ⟨r,g1,g2⟩:=take_prog hl hll ha1
 refine ⟨_,pf_ex ht g1,?_⟩
 rw [hw1,g2,ob_s]
 simp only [qao,qap,qa7,qaa,mt,List.length_cons,List.length_nil]
 have hbd:=g1.bd hl (Nat.le_refl 1) ha1
 cases r with
 | bad k=>
   have e1:takeR (a+1) (.bad k)=((k:Int),2,[]):=rfl
   rw [e1]
   dsimp only
   rw [if_neg (by decide),if_pos (by decide),qbl,ob_s]
   exact ⟨_,rfl⟩
 | ok b e=>
   obtain ⟨_,hb,_,_⟩:=hbd
   by_cases h30:30<e.length
   ·have e1:takeR (a+1) (.ok b e)=(((a+1:Nat):Int),13,[]):=if_pos h30
    have e2:exF l a (.ok b e)=.bad a 13:=if_pos h30
    rw [e1,e2]
    dsimp only
    rw [if_pos rfl,qbl,ob_s]
    exact ⟨_,rfl⟩
   ·have e1:takeR (a+1) (.ok b e)=((b:Int),0,e):=if_neg h30
    have e2:exF l a (.ok b e)=if txF l b=[93] then .ok (b+1) [(3,e)] else .bad b 2:=if_neg h30
    rw [e1]
    dsimp only
    rw [if_neg (show ¬ ((0:Int)=13) by decide),if_neg (show ¬ ¬ ((0:Int)=0) from fun h=>h rfl),qa3 hb,ob_s,e2]
    simp only [beqN]
    by_cases h93:txF l b=[93]
    ·rw [if_pos h93,if_pos h93,if_pos (by omega),show IntKind.wrap IntKind.i64 ((b:Int)+1)=((b+1:Nat):Int) from qah (by omega)]
     exact rfl
    ·rw [if_neg h93,if_neg h93,qbl,ob_s]
     exact ⟨_,rfl⟩
theorem bra_stepF (hl:toksOK l) (hll:l.length≤60001) (d:Nat) (hn:FnOK l 1 0 d (Rec80 d).1) {a:Nat} (ha:a<l.length) (ht:txF l a=[40]) (out:List Prt) (hd:16*(l.length-a)<d+4) (ho:out.length+(l.length-a)<200000):∃ r,PF l (.lv 6 a) r∧RsF l out r (T150 Ops.std (Rec80 d).1 M127 M151 l a 0 out some):=by
 have ha1:=qau hl ha (by rw [ht];decide)
 unfold T150
 have hw1:IntKind.wrap IntKind.i64 ((a:Int)+1)=((a+1:Nat):Int):=qah (by omega)
 obtain ⟨r,g1,g2⟩:=hn (a+1) out (by omega) ha1 (by omega)
 rw [hw1]
 cases r with
 | bad k c=>
   obtain ⟨out',g2⟩:=g2
   rw [g2,ob_s]
   exact ⟨_,pf_brab ht g1,_,rfl⟩
 | ok b e=>
   have g2:(Rec80 d).1 l ((a+1:Nat):Int) 0 out=some (true,l,(b:Int),0,out++e):=g2
   obtain ⟨c1,c2,c3,_⟩:=g1.bd hl (by omega) (by omega) ha1
   refine ⟨_,pf_bra ht g1,?_⟩
   rw [g2,ob_s]
   dsimp only
   simp only [Bool.not_true,cond_false]
   rw [qa3 c2,ob_s]
   simp only [beqN]
   by_cases h41:txF l b=[41]
   ·rw [if_pos h41,if_pos h41,show IntKind.wrap IntKind.i64 ((b:Int)+1)=((b+1:Nat):Int) from qah (by omega)]
    exact rfl
   ·rw [if_neg h41,if_neg h41,qbl,ob_s]
    exact ⟨_,rfl⟩
theorem RsF.pass {out:List Prt} {r:FRs} {o:Option (Bool×List Tok×Int×Int×List Prt)} (h:RsF l out r o):RsF l out r (ob o fun y0=>some (y0.1,y0.2.1,y0.2.2.1,y0.2.2.2.1,y0.2.2.2.2)):=by
 cases r with
 | ok b e=>
   have h:o=_:=h
   rw [h,ob_s]
   exact rfl
 | bad k c=>
   obtain ⟨out',h⟩:=h
   rw [h,ob_s]
   exact ⟨_,rfl⟩
theorem atom_stepF (hl:toksOK l) (hll:l.length≤60001) (d:Nat) (hb:∀ {a:Nat},a<l.length→txF l a=[40]→∀ (out:List Prt),16*(l.length-a)<d+3→out.length+(l.length-a)<200000→∃ r,PF l (.lv 6 a) r∧RsF l out r ((Rec80 d).2.2.2.2.2.2.1 l a 0 out)):FnOK l 6 0 (d+1) (fun l a x out=>T148 Ops.std M127 M128 M149 (Rec80 d).2.2.2.2.2.2.1 M151 l a x out some):=fun a out hd ha ho=>by
 dsimp only
 unfold T148
 have hw1:IntKind.wrap IntKind.i64 ((a:Int)+1)=((a+1:Nat):Int):=qah (by omega)
 rw [qa3 ha,ob_s]
 simp only [beqI,hw1]
 by_cases h1:txF l a=[116,114,117,101]
 ·rw [if_pos h1,qbk _ _ _ _ (by omega),ob_s]
  exact ⟨_,pf_true h1,rfl⟩
 rw [if_neg h1]
 by_cases h2:txF l a=[102,97,108,115,101]
 ·rw [if_pos h2,qbk _ _ _ _ (by omega),ob_s]
  exact ⟨_,pf_false h2,rfl⟩
 rw [if_neg h2]
 by_cases h3:txF l a=[91]
 ·rw [if_pos h3]
  obtain ⟨r,g1,g2⟩:=expF_prog hl hll ha h3 out (by omega)
  exact ⟨r,g1,g2.pass⟩
 rw [if_neg h3]
 by_cases h4:txF l a=[40]
 ·rw [if_pos h4]
  obtain ⟨r,g1,g2⟩:=hb ha h4 out (by omega) ho
  exact ⟨r,g1,g2.pass⟩
 rw [if_neg h4,qbl,ob_s]
 exact ⟨_,pf_none h1 h2 h3 h4,_,rfl⟩
structure AllF (l:List Tok) (d:Nat):Prop where
 f1:FnOK l 1 0 d (Rec80 d).1
 f2:FnOK l 2 0 d (Rec80 d).2.1
 f3:FnOK l 3 0 d (Rec80 d).2.2.1
 f4:FnOK l 4 0 d (Rec80 d).2.2.2.1
 f5:FnOK l 5 0 d (Rec80 d).2.2.2.2.1
 f6:FnOK l 6 0 d (Rec80 d).2.2.2.2.2.1
 br:∀ {a:Nat},a<l.length→txF l a=[40]→∀ (out:List Prt),16*(l.length-a)<d+3→out.length+(l.length-a)<200000→∃ r,PF l (.lv 6 a) r∧RsF l out r ((Rec80 d).2.2.2.2.2.2.1 l a 0 out)
 ru:FnOK l 4 1 d (Rec80 d).2.2.2.2.2.2.2.1
 lb:FnOK l 3 1 d ((Rec80 d).2.2.2.2.2.2.2.2.1 [38,38] 5)
 le:FnOK l 2 1 d ((Rec80 d).2.2.2.2.2.2.2.2.2.1 [124,124] 6)
 rf:FnOK l 1 1 d (Rec80 d).2.2.2.2.2.2.2.2.2.2
theorem FnOK.pass {n d:Nat} {f:List Tok→Int→Int→List Prt→Option (Bool×List Tok×Int×Int×List Prt)} (h:FnOK l n 1 d f):FnOK l n 0 (d+1) (fun l a x out=>ob (f l a x out) fun y0=>some (y0.1,y0.2.1,y0.2.2.1,y0.2.2.2.1,y0.2.2.2.2)):=fun a out hd ha ho=>by
 obtain ⟨r,g1,g2⟩:=h a out (by omega) ha ho
 exact ⟨r,g1,g2.pass⟩
theorem allF (hl:toksOK l) (hll:l.length≤60001):∀ d,AllF l d
 | 0=>⟨fun a out h _ _=>by omega,fun a out h _ _=>by omega,fun a out h _ _=>by omega,fun a out h _ _=>by omega,fun a out h _ _=>by omega,fun a out h _ _=>by omega,fun ha _ out h _=>by omega,fun a out h _ _=>by omega,fun a out h _ _=>by omega,fun a out h _ _=>by omega,fun a out h _ _=>by omega⟩
 | d+1=>by
   have h:=allF hl hll d
   exact ⟨h.rf.pass,h.le.pass,h.lb.pass,h.ru.pass,prf_step hl hll d h.f6,atom_stepF hl hll d h.br,fun ha ht out hd ho=>bra_stepF hl hll d h.f1 ha ht out (by omega) ho,ruF_step hl hll d h.f5,lbF_step hl hll d h.f4,leF_step hl hll d h.f3,rfF_step hl hll d h.f2⟩
theorem formula_prog (hl:toksOK l) (hll:l.length≤60001) {a:Nat} (ha:a<l.length):∃ r,PF l (.lv 1 a) r∧RsF l [] r (M80 l a 0 []):=
 (allF hl hll 1000000).f1 a [] (by omega) ha (by simp;omega)
end
def parseF (l:List Tok):FRs→Int×Int×List Prt
 | .bad k c=>(c,(tkD l k).2.2.2,[])
 | .ok b e=>if (tkD l b).1=5 then (if 24<e.length then (13,0,[]) else (0,0,e)) else (2,(tkD l b).2.2.2,[])
def FParseIs (s:List UInt8) (y:Int×Int×List Prt):Prop:=
 (∃ (e x:Int) (l:List Tok),lexS s=(e,x,l)∧e≠0∧y=(e,x,[]))∨∃ (x:Int) (l:List Tok) (r:FRs),lexS s=(0,x,l)∧PF l (.lv 1 0) r∧y=parseF l r
theorem FParseIs.det {s:List UInt8} {y y':Int×Int×List Prt} (h:FParseIs s y) (h':FParseIs s y'):y=y':=by
 rcases h with ⟨e,x,l,h1,h2,rfl⟩ | ⟨x,l,r,h1,h2,rfl⟩<;>rcases h' with ⟨e',x',l',g1,g2,rfl⟩ | ⟨x',l',r',g1,g2,rfl⟩
 ·rw [h1] at g1;cases g1;rfl
 ·rw [h1] at g1;cases g1;exact absurd rfl h2
 ·rw [h1] at g1;cases g1;exact absurd rfl g2
 ·rw [h1] at g1;cases g1;rw [h2.det g2]
theorem qcu (s:List UInt8):∃ y,FParseIs s y∧M39 s=some y:=by
 have hM:M39 s=T39 Ops.std M29 M80 s some:=rfl
 rw [hM]
 unfold T39
 rw [lex_prog,ob_s]
 simp only [qao,qak,qam,qa7,qaa,mt]
 generalize hr:lexS s=y
 obtain ⟨e,x,l⟩:=y
 dsimp only
 by_cases he:e=0
 ·subst he
  obtain ⟨hl,hlen,hs⟩:=lexS_ok hr
  have hp:=qd8 hl
  obtain ⟨r,g1,g2⟩:=formula_prog hl (by omega) hp
  refine ⟨_,.inr ⟨x,l,r,hr,g1,rfl⟩,?_⟩
  rw [if_neg (by simp)]
  have hbd:=g1.bd hl (by omega) (by omega) hp
  cases r with
  | bad k c=>
    obtain ⟨out',g2⟩:=g2
    have g2:M80 l 0 0 []=some (false,l,(k:Int),c,out'):=g2
    have hk:(0:Int)≤(k:Int)∧(k:Int)<(l.length:Int):=by have:=hbd.2.1;omega
    rw [g2,ob_s]
    simp only [Bool.not_false,cond_true,qaf]
    rw [if_pos hk]
    rfl
  | ok b e=>
    have g2:M80 l 0 0 []=some (true,l,(b:Int),0,[]++e):=g2
    have hk:(0:Int)≤(b:Int)∧(b:Int)<(l.length:Int):=by have:=hbd.2.1;omega
    rw [g2,ob_s]
    simp only [Bool.not_true,cond_false,qaf,List.nil_append,if_pos hk,parseF]
    by_cases h5:(l.getD b (Ty.dflt ty85)).1=5
    ·rw [if_neg (fun h=>h h5),if_pos h5]
     by_cases h24:24<e.length
     ·rw [if_pos (by omega),if_pos h24]
     ·rw [if_neg (by omega),if_neg h24]
    ·rw [if_pos h5,if_neg h5]
 ·rw [if_pos he]
  exact ⟨_,.inl ⟨e,x,l,hr,he,rfl⟩,rfl⟩
theorem FParseIs.good {s:List UInt8} {y:Int×Int×List Prt} (h:FParseIs s y):(y.1=0∧∃ t:Fm Trm,t.wf rightE∧y.2.2=t.flat∧t.size≤24∧∀ p∈t.flat,shortP p)∨(y.1≠0∧y.2.2=[]):=by
 rcases h with ⟨e,x,l,h1,h2,rfl⟩ | ⟨x,l,r,h1,h2,rfl⟩
 ·exact .inr ⟨h2,rfl⟩
 ·obtain ⟨hl,hlen,hs⟩:=lexS_ok h1
  have hbd:=h2.bd hl (by omega) (by omega) (qd8 hl)
  cases r with
  | bad k c=>
    refine .inr ⟨?_,rfl⟩
    show c≠0
    rcases hbd.2.2 with rfl | rfl<;>decide
  | ok b e=>
    unfold parseF
    dsimp only
    by_cases h5:(tkD l b).1=5
    ·rw [if_pos h5]
     by_cases h24:24<e.length
     ·rw [if_pos h24];exact .inr ⟨by show (13:Int)≠0;decide,rfl⟩
     ·rw [if_neg h24]
      obtain ⟨t,t1,t2,t3⟩:=rightF_tree rightE (hbd.2.2.2.right (by omega))
      refine .inl ⟨rfl,t,t1,t2,?_,?_⟩
      ·have:=t.flat_len
       rw [←t2] at this
       omega
      ·rw [←t2];exact hbd.2.2.2.2
    ·rw [if_neg h5]
     exact .inr ⟨by show (2:Int)≠0;decide,rfl⟩
abbrev TokS:=Int×List UInt8×Int
def strip (t:Tok):TokS:=(t.1,t.2.1,t.2.2.1)
def LexTo (s r:List UInt8) (ts:List TokS):Prop:=
 ∀ (f a:Nat) (out:List Tok),(s++r).length<f→∃ (f':Nat) (tks:List Tok),tks.map strip=ts∧r.length<f'∧lexGo f (s++r) a out=lexGo f' r (a+s.length) (out++tks)
theorem LexTo.nil (r:List UInt8):LexTo [] r []:=fun f a out h=>⟨f,[],rfl,h,by simp⟩
theorem LexTo.app {s1 s2 r:List UInt8} {t1 t2:List TokS} (h1:LexTo s1 (s2++r) t1) (h2:LexTo s2 r t2):LexTo (s1++s2) r (t1++t2):=fun f a out h=>by
 rw [List.append_assoc] at h
 obtain ⟨f1,k1,e1,g1,q1⟩:=h1 f a out h
 obtain ⟨f2,k2,e2,g2,q2⟩:=h2 f1 (a+s1.length) (out++k1) g1
 refine ⟨f2,k1++k2,by rw [List.map_append,e1,e2],g2,?_⟩
 rw [List.append_assoc,q1,q2,List.length_append,List.append_assoc,Nat.add_assoc]
theorem LexTo.blank {b:UInt8} (hb:blankP b=true) (r:List UInt8):LexTo [b] r []:=fun f a out h=>by
 obtain ⟨g,rfl⟩:∃ g,f=g+1:=⟨f-1,by omega⟩
 refine ⟨g,[],rfl,by simp at h;omega,?_⟩
 simp only [List.cons_append,List.nil_append,lexGo,hb,if_true,List.length_cons,List.length_nil,List.append_nil]
theorem LexTo.tok {b:UInt8} {s r:List UInt8} {k n:Int} (ht:tokS (b::(s++r))=some (k,b::s,n)) (hb:blankP b=false):LexTo (b::s) r [(k,b::s,n)]:=fun f a out h=>by
 obtain ⟨g,rfl⟩:∃ g,f=g+1:=⟨f-1,by omega⟩
 refine ⟨g,[(k,b::s,n,(a:Int))],rfl,by simp at h;omega,?_⟩
 have hd:List.drop (b::s).length (b::(s++r))=r:=by
  rw [←List.cons_append,List.drop_left]
 simp only [List.cons_append,lexGo,hb,ht,Bool.false_eq_true,if_false,hd]
theorem qci {b:UInt8} {r w:List UInt8} (h1:digitP' b=false) (h2:lowerP b=false) (h3:letterP b=false) (hs:signS (b::r)=w) (hw:w≠[]):tokS (b::r)=some (4,w,0):=by
 simp only [tokS,h1,h2,h3,hs,hw,Bool.false_eq_true,if_false]
theorem signS_two {p:List UInt8} {r:List UInt8} (h:p=[60,61]∨p=[62,61]∨p=[61,61]∨p=[33,61]∨p=[38,38]∨p=[124,124]∨p=[45,62]):signS (p++r)=p:=by
 rcases h with h | h | h | h | h | h | h<;>subst h<;>simp [signS,twos]
theorem qb9 {p:List UInt8} (r:List UInt8) (h:p=[60,61]∨p=[62,61]∨p=[61,61]∨p=[33,61]∨p=[38,38]∨p=[124,124]∨p=[45,62]):LexTo p r [(4,p,0)]:=by
 have hs:=signS_two (r:=r) h
 rcases h with h | h | h | h | h | h | h<;>subst h<;>exact LexTo.tok (qci rfl rfl rfl hs (by simp)) rfl
theorem signS_one {c:UInt8} {r:List UInt8} (h:c=40∨c=41∨c=91∨c=93∨c=64):signS (c::r)=[c]:=by
 have h2:twos.find? (fun p=>decide (1<(c::r).length) && ((c::r).take 2 == p))=none:=by
  rw [List.find?_eq_none]
  intro p hp
  simp only [twos,List.mem_cons,List.not_mem_nil,or_false] at hp
  rcases h with h | h | h | h | h<;>subst h<;>rcases hp with hp | hp | hp | hp | hp | hp | hp<;>subst hp<;>simp
 unfold signS
 rw [h2]
 rcases h with h | h | h | h | h<;>subst h<;>simp [ones]
theorem qca {c:UInt8} (r:List UInt8) (h:c=40∨c=41∨c=91∨c=93∨c=64):LexTo [c] r [(4,[c],0)]:=by
 have hs:=signS_one (r:=r) h
 rcases h with h | h | h | h | h<;>subst h<;>exact LexTo.tok (s:=[]) (qci rfl rfl rfl hs (by simp)) rfl
theorem signS_oneq {c d:UInt8} {r:List UInt8} (h:c=33∨c=60∨c=62) (hd:d≠61):signS (c::d::r)=[c]:=by
 have h2:twos.find? (fun p=>decide (1<(c::d::r).length) && ((c::d::r).take 2 == p))=none:=by
  rw [List.find?_eq_none]
  intro p hp
  simp only [twos,List.mem_cons,List.not_mem_nil,or_false] at hp
  rcases h with h | h | h<;>subst h<;>rcases hp with hp | hp | hp | hp | hp | hp | hp<;>subst hp<;>simp [hd]
 unfold signS
 rw [h2]
 rcases h with h | h | h<;>subst h<;>simp [ones]
theorem qdr {c d:UInt8} (r:List UInt8) (h:c=33∨c=60∨c=62) (hd:d≠61):LexTo [c] (d::r) [(4,[c],0)]:=by
 have hs:=signS_oneq (r:=r) h hd
 rcases h with h | h | h<;>subst h<;>exact LexTo.tok (s:=[]) (qci rfl rfl rfl hs (by simp)) rfl
theorem qcj {c:UInt8} (r:List UInt8) (h:c=88∨c=70∨c=71∨c=85∨c=82):LexTo [c] r [(3,[c],0)]:=by
 rcases h with h | h | h | h | h<;>subst h<;>exact LexTo.tok (s:=[]) rfl rfl
def noWord (r:List UInt8):Prop:=∀ (b:UInt8) (q:List UInt8),r=b::q→wordP b=false
theorem noWord.nil:noWord []:=fun b q h=>by cases h
theorem noWord.cons {b:UInt8} {q:List UInt8} (h:wordP b=false):noWord (b::q):=fun c p e=>by cases e;exact h
theorem tw_app {p:UInt8→Bool}:∀ (w r:List UInt8),w.all p=true→(∀ b q,r=b::q→p b=false)→(w++r).takeWhile p=w
 | [],[],_,_=>rfl
 | [],b::q,_,h=>by rw [List.nil_append,List.takeWhile_cons,h b q rfl];rfl
 | a::w,r,ha,h=>by
   simp only [List.all_cons,Bool.and_eq_true] at ha
   rw [List.cons_append,List.takeWhile_cons,ha.1,if_pos rfl,tw_app w r ha.2 h]
theorem lx_word {b:UInt8} {w:List UInt8} (r:List UInt8) (hb:lowerP b=true) (hn:digitP' b=false) (hk:blankP b=false) (hw:w.all wordP=true) (hl:w.length<8) (hr:noWord r):LexTo (b::w) r [(2,b::w,0)]:=by
 refine LexTo.tok ?_ hk
 have ht:(b::(w++r)).takeWhile wordP=b::w:=by
  rw [←List.cons_append]
  exact tw_app (b::w) r (by rw [List.all_cons,hw];simp [wordP,hb]) hr
 simp only [tokS,hn,hb,ht,Bool.false_eq_true,if_false,if_true,List.length_cons]
 rw [if_pos (by omega)]
theorem lx_num {b:UInt8} (r:List UInt8) (hb:digitP' b=true) (hk:blankP b=false) (hr:noWord r):LexTo [b] r [(1,[b],valW [b])]:=by
 refine LexTo.tok (s:=[]) ?_ hk
 have ht:(b::([]++r)).takeWhile digitP'=[b]:=by
  have:=tw_app (p:=digitP') [b] r (by simp [hb]) (fun c q e=>by
   have:=hr c q e
   simp only [wordP,Bool.or_eq_false_iff] at this
   exact this.2)
  simpa using this
 simp only [tokS,hb,ht,if_true]
 rfl
inductive Sen where
 | con (b:Bool)
 | atm (i:Nat)
 | una (k:Int) (s:Sen)
 | bra (s:Sen)
 | bin (k:Int) (a b:Sen)
def unaW (k:Int):List UInt8:=if k=4 then [33] else if k=8 then [88,32] else if k=11 then [70,32] else [71,32]
def unaT (k:Int):TokS:=if k=4 then (4,[33],0) else if k=8 then (3,[88],0) else if k=11 then (3,[70],0) else (3,[71],0)
def binW (k:Int):List UInt8:=if k=5 then [32,38,38,32] else if k=6 then [32,124,124,32] else if k=7 then [32,45,62,32] else if k=9 then [32,85,32] else [32,82,32]
def binT (k:Int):TokS:=if k=5 then (4,[38,38],0) else if k=6 then (4,[124,124],0) else if k=7 then (4,[45,62],0) else if k=9 then (3,[85],0) else (3,[82],0)
def conW (b:Bool):List UInt8:=if b then [116,114,117,101] else [102,97,108,115,101]
def atmsW:List (List UInt8):=[[91,120,61,61,49,93],[91,112,64,97,93],[91,121,60,49,93],[91,113,64,98,38,38,120,62,48,93],[91,120,61,61,121,93],[91,112,64,98,93]]
def atmsT:List (List TokS):=[[(2,[120],0),(4,[61,61],0),(1,[49],1),(4,[93],0)],[(2,[112],0),(4,[64],0),(2,[97],0),(4,[93],0)],[(2,[121],0),(4,[60],0),(1,[49],1),(4,[93],0)],
 [(2,[113],0),(4,[64],0),(2,[98],0),(4,[38,38],0),(2,[120],0),(4,[62],0),(1,[48],0),(4,[93],0)],[(2,[120],0),(4,[61,61],0),(2,[121],0),(4,[93],0)],[(2,[112],0),(4,[64],0),(2,[98],0),(4,[93],0)]]
def Sen.text:Sen→List UInt8
 | .con b=>conW b
 | .atm i=>atmsW.getD i []
 | .una k s=>unaW k++s.text
 | .bra s=>[40]++(s.text++[41])
 | .bin k a b=>a.text++(binW k++b.text)
def Sen.toks:Sen→List TokS
 | .con b=>[(2,conW b,0)]
 | .atm i=>(4,[91],0)::atmsT.getD i []
 | .una k s=>unaT k::s.toks
 | .bra s=>(4,[40],0)::(s.toks++[(4,[41],0)])
 | .bin k a b=>a.toks++(binT k::b.toks)
def lvK (k:Int):Nat:=if k=7 then 1 else if k=6 then 2 else if k=5 then 3 else 4
def Sen.lv:Sen→Nat
 | .bin k _ _=>lvK k
 | _=>5
def unaK (k:Int):Prop:=k=4∨k=8∨k=11∨k=12
def binK (k:Int):Prop:=k=5∨k=6∨k=7∨k=9∨k=10
def Sen.ok:Sen→Prop
 | .con _=>True
 | .atm i=>i<6
 | .una k s=>unaK k∧s.lv=5∧s.ok
 | .bra s=>s.ok
 | .bin k a b=>binK k∧lvK k<a.lv∧lvK k≤b.lv∧(lvK k=b.lv→lvK k=1∨lvK k=4)∧a.ok∧b.ok
theorem Sen.head:∀ s:Sen,s.ok→∃ (d:UInt8) (q:List UInt8),s.text=d::q∧d≠61
 | .con b,_=>by cases b<;>exact ⟨_,_,rfl,by decide⟩
 | .atm i,h=>by
   have h:i<6:=h
   match i,h with
   | 0,_ | 1,_ | 2,_ | 3,_ | 4,_ | 5,_=>exact ⟨_,_,rfl,by decide⟩
 | .una k s,h=>by
   obtain ⟨h1,_,_⟩:=h
   rcases h1 with rfl | rfl | rfl | rfl<;>exact ⟨_,_,rfl,by decide⟩
 | .bra s,_=>⟨_,_,rfl,by decide⟩
 | .bin k a b,h=>by
   obtain ⟨d,q,e,hd⟩:=a.head h.2.2.2.2.1
   exact ⟨d,q++(binW k++b.text),by simp only [Sen.text,e,List.cons_append],hd⟩
theorem lx_una {k:Int} (hk:unaK k) {s r:List UInt8} (hs:∃ (d:UInt8) (q:List UInt8),s=d::q∧d≠61):LexTo (unaW k) (s++r) [unaT k]:=by
 obtain ⟨d,q,rfl,hd⟩:=hs
 rcases hk with rfl | rfl | rfl | rfl
 ·exact qdr (q++r) (.inl rfl) hd
 ·exact (qcj _ (.inl rfl)).app (LexTo.blank (b:=32) rfl _)
 ·exact (qcj _ (.inr (.inl rfl))).app (LexTo.blank (b:=32) rfl _)
 ·exact (qcj _ (.inr (.inr (.inl rfl)))).app (LexTo.blank (b:=32) rfl _)
theorem lx_bin {k:Int} (hk:binK k) (r:List UInt8):LexTo (binW k) r [binT k]:=by
 have bl:=fun r=>LexTo.blank (b:=32) rfl r
 rcases hk with rfl | rfl | rfl | rfl | rfl
 ·exact (bl _).app ((qb9 (p:=[38,38]) _ (by simp)).app (bl _))
 ·exact (bl _).app ((qb9 (p:=[124,124]) _ (by simp)).app (bl _))
 ·exact (bl _).app ((qb9 (p:=[45,62]) _ (by simp)).app (bl _))
 ·exact (bl _).app ((qcj (c:=85) _ (by simp)).app (bl _))
 ·exact (bl _).app ((qcj (c:=82) _ (by simp)).app (bl _))
theorem noWord.bin {k:Int} (hk:binK k) (r:List UInt8):noWord (binW k++r):=by
 rcases hk with rfl | rfl | rfl | rfl | rfl<;>exact noWord.cons rfl
theorem lx_con (b:Bool) {r:List UInt8} (hr:noWord r):LexTo (conW b) r [(2,conW b,0)]:=by
 cases b
 ·exact lx_word r rfl rfl rfl rfl (by decide) hr
 ·exact lx_word r rfl rfl rfl rfl (by decide) hr
theorem lx_w (c:UInt8) (r:List UInt8) (h:c=120∨c=121∨c=112∨c=113∨c=97∨c=98) (hr:noWord r):LexTo [c] r [(2,[c],0)]:=by
 rcases h with rfl | rfl | rfl | rfl | rfl | rfl<;>exact lx_word r rfl rfl rfl rfl (by decide) hr
theorem lx_atm {i:Nat} (hi:i<6) (r:List UInt8):LexTo (atmsW.getD i []) r ((4,[91],0)::atmsT.getD i []):=by
 have op:=fun r=>qca (c:=91) r (by simp)
 have cl:=qca (c:=93) r (by simp)
 have at_:=fun r=>qca (c:=64) r (by simp)
 match i,hi with
 | 0,_=>exact (op _).app ((lx_w 120 _ (by simp) (noWord.cons rfl)).app ((qb9 (p:=[61,61]) _ (by simp)).app ((lx_num (b:=49) _ rfl rfl (noWord.cons rfl)).app cl)))
 | 1,_=>exact (op _).app ((lx_w 112 _ (by simp) (noWord.cons rfl)).app ((at_ _).app ((lx_w 97 _ (by simp) (noWord.cons rfl)).app cl)))
 | 2,_=>exact (op _).app ((lx_w 121 _ (by simp) (noWord.cons rfl)).app ((qdr (c:=60) _ (by simp) (by decide)).app ((lx_num (b:=49) _ rfl rfl (noWord.cons rfl)).app cl)))
 | 3,_=>exact (op _).app ((lx_w 113 _ (by simp) (noWord.cons rfl)).app ((at_ _).app ((lx_w 98 _ (by simp) (noWord.cons rfl)).app ((qb9 (p:=[38,38]) _ (by simp)).app ((lx_w 120 _ (by simp) (noWord.cons rfl)).app ((qdr (c:=62) _ (by simp) (by decide)).app ((lx_num (b:=48) _ rfl rfl (noWord.cons rfl)).app cl)))))))
 | 4,_=>exact (op _).app ((lx_w 120 _ (by simp) (noWord.cons rfl)).app ((qb9 (p:=[61,61]) _ (by simp)).app ((lx_w 121 _ (by simp) (noWord.cons rfl)).app cl)))
 | 5,_=>exact (op _).app ((lx_w 112 _ (by simp) (noWord.cons rfl)).app ((at_ _).app ((lx_w 98 _ (by simp) (noWord.cons rfl)).app cl)))
theorem Sen.lex:∀ (s:Sen),s.ok→∀ r,noWord r→LexTo s.text r s.toks
 | .con b,_,r,hr=>lx_con b hr
 | .atm i,h,r,_=>lx_atm h r
 | .una k s,h,r,hr=>(lx_una h.1 (s.head h.2.2)).app (s.lex h.2.2 r hr)
 | .bra s,h,r,hr=>(qca (c:=40) _ (by simp)).app ((s.lex h _ (noWord.cons rfl)).app (qca (c:=41) r (by simp)))
 | .bin k a b,h,r,hr=>by
   obtain ⟨hk,_,_,_,ha,hb⟩:=h
   refine (a.lex ha _ ?_).app ((lx_bin hk _).app (b.lex hb r hr))
   rw [List.append_assoc]
   exact noWord.bin hk _
theorem Sen.lexS (s:Sen) (h:s.ok) (hl:s.text.length≤60000):∃ (tks:List Tok) (x:Int),lexS s.text=(0,0,tks++[(5,[],0,x)])∧tks.map strip=s.toks:=by
 obtain ⟨f',tks,h1,h2,h3⟩:=s.lex h [] noWord.nil (s.text.length+1) 0 [] (by simp)
 rw [List.append_nil] at h3
 obtain ⟨g,rfl⟩:∃ g,f'=g+1:=⟨f'-1,by simp at h2;omega⟩
 refine ⟨tks,((0+s.text.length:Nat):Int),?_,h1⟩
 unfold Av.lexS
 rw [if_neg (by omega),h3]
 rfl
inductive Et where
 | nul (t:Trm)
 | un (k:Int) (x:Et)
 | bi (k:Int) (x y:Et)
def lvO (k:Int):Nat:=if k=6 then 5 else if k=7∨k=8 then 4 else if k=15 then 2 else if k=16 then 1 else 3
theorem lvO_le (k:Int):1≤lvO k∧lvO k≤5:=by unfold lvO;(repeat' split)<;>omega
def Et.flat:Et→List Trm
 | .nul t=>[t]
 | .un k x=>x.flat++[(k,0,[],[])]
 | .bi k x y=>x.flat++y.flat++[(k,0,[],[])]
def nulT (t:Trm):Prop:=mayT t=true∧(t.1=1∨t.1=2∨t.1=3)
def Et.wf:Et→Prop
 | .nul t=>nulT t
 | .un k x=>(k=4∨k=5)∧x.wf
 | .bi k x y=>(6≤k∧k≤16)∧x.wf∧y.wf
def Et.lv:Et→Nat
 | .nul _=>7
 | .un _ _=>6
 | .bi k _ _=>lvO k
theorem nulT.op {t:Trm} (h:nulT t):opE t.1=0:=by
 obtain ⟨_,h | h | h⟩:=h<;>rw [h]<;>rfl
theorem opE_un {k:Int} (h:k=4∨k=5):opE k=1:=by rcases h with rfl | rfl<;>rfl
theorem opE_bi {k:Int} (h:6≤k∧k≤16):opE k=2:=by unfold opE;(repeat' split)<;>omega
theorem Et.good:∀ (t:Et),t.wf→goodE t.flat
 | .nul t,h=>goodE.nul h.1 h.op
 | .un k x,h=>(x.good h.2).un (may_op (by have:=h.1;omega) (by have:=h.1;omega)) (opE_un h.1)
 | .bi k x y,h=>(x.good h.2.1).bi (y.good h.2.2) (may_op (by have:=h.1.1;omega) h.1.2) (opE_bi h.1)
theorem qb2 {α:Type} {l l':List α} {x x':α} (h:l++[x]=l'++[x']):l=l'∧x=x':=by
 have:=List.append_inj' h rfl
 exact ⟨this.1,by simpa using this.2⟩
theorem Et.inj:∀ (t t':Et) (l l':List Trm),t.wf→t'.wf→l++t.flat=l'++t'.flat→l=l'∧t=t':=by
 have kind:∀ {t:Trm} {k:Int},nulT t→t=(k,0,[],[])→4≤k→False:=fun {t k} h e hk=>by
  have h1:t.1=k:=congrArg (·.1) e
  have h2:=h.2
  omega
 intro t
 induction t with
 | nul t=>
   intro t' l l' h h' e
   cases t' with
   | nul t'=>
     obtain ⟨e1,e2⟩:=qb2 e
     exact ⟨e1,by rw [e2]⟩
   | un k x=>
     simp only [Et.flat,←List.append_assoc] at e
     exact (kind h (qb2 e).2 (by rcases h'.1 with rfl | rfl<;>decide)).elim
   | bi k x y=>
     simp only [Et.flat,←List.append_assoc] at e
     exact (kind h (qb2 e).2 (by have:=h'.1.1;omega)).elim
 | un k x ih=>
   intro t' l l' h h' e
   cases t' with
   | nul t'=>
     simp only [Et.flat,←List.append_assoc] at e
     exact (kind h' (qb2 e).2.symm (by rcases h.1 with rfl | rfl<;>decide)).elim
   | un k' x'=>
     simp only [Et.flat,←List.append_assoc] at e
     obtain ⟨e1,e2⟩:=qb2 e
     have hk:k=k':=congrArg (·.1) e2
     obtain ⟨e3,e4⟩:=ih x' l l' h.2 h'.2 e1
     exact ⟨e3,by rw [hk,e4]⟩
   | bi k' x' y'=>
     simp only [Et.flat,←List.append_assoc] at e
     obtain ⟨e1,e2⟩:=qb2 e
     have hk:k=k':=congrArg (·.1) e2
     have h1:=h.1
     have h2:=h'.1
     omega
 | bi k x y ihx ihy=>
   intro t' l l' h h' e
   cases t' with
   | nul t'=>
     simp only [Et.flat,←List.append_assoc] at e
     exact (kind h' (qb2 e).2.symm (by have:=h.1.1;omega)).elim
   | un k' x'=>
     simp only [Et.flat,←List.append_assoc] at e
     obtain ⟨e1,e2⟩:=qb2 e
     have hk:k=k':=congrArg (·.1) e2
     have h1:=h.1
     have h2:=h'.1
     omega
   | bi k' x' y'=>
     simp only [Et.flat,←List.append_assoc] at e
     obtain ⟨e1,e2⟩:=qb2 e
     have hk:k=k':=congrArg (·.1) e2
     obtain ⟨e3,e4⟩:=ihy y' _ _ h.2.2 h'.2.2 e1
     obtain ⟨e5,e6⟩:=ihx x' l l' h.2.1 h'.2.1 e3
     exact ⟨e5,by rw [hk,e4,e6]⟩
theorem Et.flat_inj {t t':Et} (h:t.wf) (h':t'.wf) (e:t.flat=t'.flat):t=t':=(t.inj t' [] [] h h' (by simpa using e)).2
def eflats:List Et→List Trm
 | []=>[]
 | t::ts=>eflats ts++t.flat
def ewfs:List Et→Prop
 | []=>True
 | t::ts=>t.wf∧ewfs ts
theorem qc5:∀ (e:List Trm) (ts:List Et) (n:Int),ewfs ts→eGo e (ts.length:Nat)=some n→∃ us:List Et,ewfs us∧(us.length:Int)=n∧eflats us=eflats ts++e
 | [],ts,n,h,hg=>⟨ts,h,Option.some.inj hg,by simp⟩
 | p::r,ts,n,h,hg=>by
   simp only [eGo] at hg
   split at hg
   ·cases hg
   ·rename_i hc
    simp only [Bool.or_eq_true,Bool.not_eq_true',decide_eq_true_eq,not_or,Bool.not_eq_false] at hc
    obtain ⟨hm,hd⟩:=hc
    have hop:=mayT_op hm
    have hle:=opE_le p.1
    have hk:opE p.1=0∨opE p.1=1∨opE p.1=2:=by omega
    have hz:opE p.1≠0→p=(p.1,0,[],[]):=fun h0=>by
     have hn:¬ p.1=1∧¬ p.1=2∧¬ p.1=3:=⟨fun h=>h0 (by rw [h];rfl),fun h=>h0 (by rw [h];rfl),fun h=>h0 (by rw [h];rfl)⟩
     unfold mayT at hm
     rw [if_neg hn.1,if_neg hn.2.1,if_neg hn.2.2] at hm
     simp only [Bool.and_eq_true,decide_eq_true_eq,beq_iff_eq] at hm
     obtain ⟨a,b,c,d⟩:=p
     have h1:b=0:=hm.1.1.2
     have h2:c=[]:=hm.1.2
     have h3:d=[]:=hm.2
     rw [h1,h2,h3]
    rcases hk with h0 | h1 | h2
    ·have ht:nulT p:=⟨hm,by unfold opE at h0;(repeat' split at h0)<;>omega⟩
     rw [h0] at hg
     obtain ⟨us,u1,u2,u3⟩:=qc5 r (.nul p::ts) n ⟨ht,h⟩ (by rw [←hg];congr 1<;>simp)
     exact ⟨us,u1,u2,by rw [u3];simp [eflats,Et.flat]⟩
    ·cases ts with
     | nil=>simp at hd;omega
     | cons x ts=>
       rw [h1] at hg
       have hw:(Et.un p.1 x).wf:=⟨by unfold opE at h1;(repeat' split at h1)<;>omega,h.1⟩
       obtain ⟨us,u1,u2,u3⟩:=qc5 r (.un p.1 x::ts) n ⟨hw,h.2⟩ (by rw [←hg];congr 1<;>simp)
       refine ⟨us,u1,u2,?_⟩
       rw [u3]
       have:=hz (by omega)
       simp only [eflats,Et.flat]
       rw [←this]
       simp
    ·cases ts with
     | nil=>simp at hd;omega
     | cons y ts=>
       cases ts with
       | nil=>simp at hd;omega
       | cons x ts=>
         rw [h2] at hg
         have hw:(Et.bi p.1 x y).wf:=⟨by unfold opE at h2;(repeat' split at h2)<;>omega,h.2.1,h.1⟩
         obtain ⟨us,u1,u2,u3⟩:=qc5 r (.bi p.1 x y::ts) n ⟨hw,h.2.2⟩ (by rw [←hg];congr 1;simp;omega)
         refine ⟨us,u1,u2,?_⟩
         rw [u3]
         have:=hz (by omega)
         simp only [eflats,Et.flat]
         rw [←this]
         simp
theorem rightE_tree {e:List Trm} (h:rightE e=true):∃ t:Et,t.wf∧e=t.flat∧e.length≤30:=by
 unfold rightE fin30 at h
 cases hg:eGo e 0 with
 | none=>rw [hg] at h;cases h
 | some d=>
   rw [hg] at h
   simp only [Bool.and_eq_true,decide_eq_true_eq] at h
   obtain ⟨us,u1,u2,u3⟩:=qc5 e [] d trivial hg
   rw [h.1] at u2
   match us,u1,u2,u3 with
   | [t],u1,_,u3=>exact ⟨t,u1.1,by simpa [eflats] using u3.symm,h.2⟩
theorem qes {t:Et} (h:t.wf) (hl:t.flat.length≤30):rightE t.flat=true:=(t.good h).right hl
def opW (k:Int):List UInt8:=if k=6 then [42] else if k=7 then [43] else if k=8 then [45] else if k=9 then [60] else if k=10 then [60,61] else if k=11 then [62] else if k=12 then [62,61] else if k=13 then [61,61] else if k=14 then [33,61] else if k=15 then [38,38] else [124,124]
def unW (k:Int):List UInt8:=if k=4 then [33] else [45]
theorem qb3 {k:Int} (h:6≤k∧k≤16):k=6∨k=7∨k=8∨k=9∨k=10∨k=11∨k=12∨k=13∨k=14∨k=15∨k=16:=by omega
theorem sgW_op {k:Int} (h:6≤k∧k≤16):sgW (opW k)=(k,lvO k):=by
 rcases qb3 h with rfl | rfl | rfl | rfl | rfl | rfl | rfl | rfl | rfl | rfl | rfl<;>rfl
def lfO (n:Nat):Nat:=if n=3 then 4 else n
inductive De where
 | nul (t:Trm) (w:List UInt8)
 | un (k:Int) (d:De)
 | bi (k:Int) (a b:De)
 | bra (d:De)
def De.tree:De→Et
 | .nul t _=>.nul t
 | .un k d=>.un k d.tree
 | .bi k a b=>.bi k a.tree b.tree
 | .bra d=>d.tree
def De.lv:De→Nat
 | .nul _ _=>7
 | .un _ _=>6
 | .bi k _ _=>lvO k
 | .bra _=>7
def De.ok:De→Prop
 | .nul t _=>nulT t
 | .un k d=>(k=4∨k=5)∧6≤d.lv∧d.ok
 | .bi k a b=>(6≤k∧k≤16)∧lfO (lvO k)≤a.lv∧lvO k+1≤b.lv∧a.ok∧b.ok
 | .bra d=>d.ok
def nulK (t:Trm) (w:List UInt8):List TokS:=if t.1=1 then [(1,w,t.2.1)] else if t.1=2 then [(2,t.2.2.1,0)] else [(2,t.2.2.1,0),(4,[64],0),(2,t.2.2.2,0)]
def De.toks:De→List TokS
 | .nul t w=>nulK t w
 | .un k d=>(4,unW k,0)::d.toks
 | .bi k a b=>a.toks++((4,opW k,0)::b.toks)
 | .bra d=>(4,[40],0)::(d.toks++[(4,[41],0)])
def PreT:List TokS→List Tok→Nat→Prop
 | [],_,_=>True
 | t::ts,l,a=>(a<l.length∧strip (tkD l a)=t)∧PreT ts l (a+1)
theorem PreT.app:∀ (s t:List TokS) (l:List Tok) (a:Nat),PreT (s++t) l a→PreT s l a∧PreT t l (a+s.length)
 | [],t,l,a,h=>⟨trivial,h⟩
 | x::s,t,l,a,h=>by
   obtain ⟨h1,h2⟩:=PreT.app s t l (a+1) h.2
   refine ⟨⟨h.1,h1⟩,?_⟩
   rw [List.length_cons,show a+(s.length+1)=a+1+s.length by omega]
   exact h2
theorem tkS_1 {l:List Tok} {a:Nat} {k n:Int} {w:List UInt8} (h:strip (tkD l a)=(k,w,n)):(tkD l a).1=k:=congrArg (·.1) h
theorem tkS_2 {l:List Tok} {a:Nat} {k n:Int} {w:List UInt8} (h:strip (tkD l a)=(k,w,n)):(tkD l a).2.1=w:=congrArg (·.2.1) h
theorem tkS_3 {l:List Tok} {a:Nat} {k n:Int} {w:List UInt8} (h:strip (tkD l a)=(k,w,n)):(tkD l a).2.2.1=n:=congrArg (·.2.2) h
theorem qd1 {l:List Tok} {a:Nat} {n:Int} {w:List UInt8} (h:strip (tkD l a)=(4,w,n)):isS l a w=true:=by
 unfold isS
 rw [tkS_1 h,tkS_2 h]
 simp
theorem sgE_of {l:List Tok} {a:Nat} {k n:Int} (hk:6≤k∧k≤16) (h:strip (tkD l a)=(4,opW k,n)):sgE l a=(k,lvO k):=by
 unfold sgE
 rw [if_pos (tkS_1 h),tkS_2 h,sgW_op hk]
section
variable {l:List Tok}
theorem lv_down {a b:Nat} {e:List Trm}:∀ (k n:Nat),n+k≤6→(sgE l b).2<n→PE l (.lv (n+k) a) (.ok b e)→PE l (.lv n a) (.ok b e)
 | 0,n,_,_,h=>h
 | k+1,n,h6,hs,h=>by
   have h':PE l (.lv (n+1+k) a) (.ok b e):=by rw [show n+1+k=n+(k+1) by omega];exact h
   exact pe_lv (by omega) (lv_down k (n+1) (by omega) (by omega) h') (pe_stop (by omega))
theorem lv_to {a b m n:Nat} {e:List Trm} (h:PE l (.lv m a) (.ok b e)) (hm:m≤6) (hn:n≤m) (hs:(sgE l b).2<n):PE l (.lv n a) (.ok b e):=
 lv_down (m-n) n (by omega) hs (by rw [show n+(m-n)=m by omega];exact h)
theorem De.read (hend:∀ a,a<l.length→True):∀ (d:De),d.ok→∀ a,PreT d.toks l a→¬ isS l (a+d.toks.length) [64]=true→
  (6≤d.lv→PE l (.un a) (.ok (a+d.toks.length) d.tree.flat))∧
  (∀ n,1≤n→n≤6→n≤d.lv→(sgE l (a+d.toks.length)).2<n→PE l (.lv n a) (.ok (a+d.toks.length) d.tree.flat))∧
  (∀ n r,1≤n→n≤5→n≠3→n≤d.lv→(sgE l (a+d.toks.length)).2<n+1→PE l (.lp n (a+d.toks.length) d.tree.flat) r→PE l (.lv n a) r):=by
 have alone:∀ {a b:Nat} {e:List Trm},PE l (.un a) (.ok b e)→(∀ n,1≤n→n≤6→(sgE l b).2<n→PE l (.lv n a) (.ok b e))∧(∀ n r,1≤n→n≤5→(sgE l b).2<n+1→PE l (.lp n b e) r→PE l (.lv n a) r):=fun {a b e} h=>by
  have h6:=pe_six h
  exact ⟨fun n h1 h2 hs=>lv_to h6 (Nat.le_refl 6) h2 hs,fun n r h1 h2 hs hr=>pe_lv (by omega) (lv_to h6 (Nat.le_refl 6) (by omega) hs) hr⟩
 intro d
 induction d with
 | nul t w=>
   intro h a hp hn
   have hu:PE l (.un a) (.ok (a+(De.nul t w).toks.length) (De.nul t w).tree.flat):=by
    obtain ⟨hm,hk | hk | hk⟩:=h
    ·have et:(De.nul t w).toks=[(1,w,t.2.1)]:=if_pos hk
     rw [et] at hp ⊢
     have:=pe_num (tkS_1 hp.1.2)
     rw [tkS_3 hp.1.2] at this
     have e:t=(1,t.2.1,[],[]):=by
      unfold mayT at hm
      rw [if_pos hk] at hm
      simp only [Bool.and_eq_true,beq_iff_eq] at hm
      obtain ⟨a,b,c,d⟩:=t
      have h1:a=1:=hk
      have h2:c=[]:=hm.1.2
      have h3:d=[]:=hm.2
      rw [h1,h2,h3]
     show PE l _ (.ok (a+1) [t])
     rw [e]
     exact this
    ·have et:(De.nul t w).toks=[(2,t.2.2.1,0)]:=by show nulK t w=_;unfold nulK;rw [if_neg (by rw [hk];decide),if_pos hk]
     rw [et] at hp hn ⊢
     have:=pe_word (tkS_1 hp.1.2)
     have hn:¬ isS l (a+1) [64]=true:=hn
     rw [if_neg hn,tkS_2 hp.1.2] at this
     have e:t=(2,0,t.2.2.1,[]):=by
      unfold mayT at hm
      rw [if_neg (by rw [hk];decide),if_pos hk] at hm
      simp only [Bool.and_eq_true,beq_iff_eq,decide_eq_true_eq] at hm
      obtain ⟨a,b,c,d⟩:=t
      have h1:a=2:=hk
      have h2:b=0:=hm.1.1
      have h3:d=[]:=hm.2
      rw [h1,h2,h3]
     show PE l _ (.ok (a+1) [t])
     rw [e]
     exact this
    ·have et:(De.nul t w).toks=[(2,t.2.2.1,0),(4,[64],0),(2,t.2.2.2,0)]:=by show nulK t w=_;unfold nulK;rw [if_neg (by rw [hk];decide),if_neg (by rw [hk];decide)]
     rw [et] at hp ⊢
     have:=pe_word (tkS_1 hp.1.2)
     rw [if_pos (qd1 hp.2.1.2),if_pos (tkS_1 hp.2.2.1.2),tkS_2 hp.1.2,tkS_2 hp.2.2.1.2] at this
     have e:t=(3,0,t.2.2.1,t.2.2.2):=by
      unfold mayT at hm
      rw [if_neg (by rw [hk];decide),if_neg (by rw [hk];decide),if_pos hk] at hm
      simp only [Bool.and_eq_true,decide_eq_true_eq] at hm
      obtain ⟨a,b,c,d⟩:=t
      have h1:a=3:=hk
      have h2:b=0:=hm.1.1
      rw [h1,h2]
     show PE l _ (.ok (a+3) [t])
     rw [e]
     exact this
   obtain ⟨h1,h2⟩:=alone hu
   exact ⟨fun _=>hu,fun n a b _ c=>h1 n a b c,fun n r a b _ _ c=>h2 n r a b c⟩
 | un k d ih=>
   intro h a hp hn
   obtain ⟨hk,h6,hd⟩:=h
   have el:a+(De.un k d).toks.length=a+1+d.toks.length:=by simp only [De.toks,List.length_cons];omega
   rw [el] at hn ⊢
   have hx:=(ih hd (a+1) hp.2 hn).1 h6
   have hu:PE l (.un a) (.ok (a+1+d.toks.length) (De.un k d).tree.flat):=by
    rcases hk with rfl | rfl
    ·exact pe_not (qd1 hp.1.2) hx
    ·exact pe_neg (qd1 hp.1.2) hx
   obtain ⟨h1,h2⟩:=alone hu
   exact ⟨fun _=>hu,fun n a b _ c=>h1 n a b c,fun n r a b _ _ c=>h2 n r a b c⟩
 | bra d ih=>
   intro h a hp hn
   have hp2:=PreT.app d.toks [(4,[41],0)] l (a+1) hp.2
   have el:a+(De.bra d).toks.length=a+1+d.toks.length+1:=by simp only [De.toks,List.length_cons,List.length_append,List.length_nil];omega
   rw [el] at hn ⊢
   have hc:=hp2.2.1.2
   have hs0:(sgE l (a+1+d.toks.length)).2=0:=by
    unfold sgE
    rw [if_pos (tkS_1 hc),tkS_2 hc]
    rfl
   have h1v:1≤d.lv:=by
    cases d with
    | bi k x y=>exact (lvO_le k).1
    | nul _ _=>show 1≤7;omega
    | un _ _=>show 1≤6;omega
    | bra _=>show 1≤7;omega
   have hx:=(ih h (a+1) hp2.1 (qc1 (qd1 hc) (by decide))).2.1 1 (Nat.le_refl 1) (by omega) h1v (by omega)
   have hu:PE l (.un a) (.ok (a+1+d.toks.length+1) (De.bra d).tree.flat):=by
    have:=pe_bra (qd1 hp.1.2) hx
    rw [if_pos (qd1 hc)] at this
    exact this
   obtain ⟨h1,h2⟩:=alone hu
   exact ⟨fun _=>hu,fun n a b _ c=>h1 n a b c,fun n r a b _ _ c=>h2 n r a b c⟩
 | bi k x y ihx ihy=>
   intro h a hp hn
   obtain ⟨hk,hxl,hyl,hx,hy⟩:=h
   have hp1:=PreT.app x.toks ((4,opW k,0)::y.toks) l a hp
   have el:a+(De.bi k x y).toks.length=a+x.toks.length+1+y.toks.length:=by simp only [De.toks,List.length_cons,List.length_append];omega
   rw [el] at hn ⊢
   have hop:=hp1.2.1.2
   have hsg:=sgE_of hk hop
   have hl5:=lvO_le k
   have hs2:(sgE l (a+x.toks.length)).2=lvO k:=by rw [hsg]
   have hno:¬ isS l (a+x.toks.length) [64]=true:=by
    refine qc1 (qd1 hop) fun h=>?_
    have:=sgW_op hk
    rw [h] at this
    have h2:(0:Int)=k:=congrArg (·.1) this
    omega
   have IX:=ihx hx a hp1.1 hno
   have IY:=ihy hy (a+x.toks.length+1) hp1.2.2 hn
   have hflat:(De.bi k x y).tree.flat=x.tree.flat++y.tree.flat++[((sgE l (a+x.toks.length)).1,0,[],[])]:=by rw [hsg];rfl
   have own:lvO k≠3→∀ r,(sgE l (a+x.toks.length+1+y.toks.length)).2<lvO k+1→PE l (.lp (lvO k) (a+x.toks.length+1+y.toks.length) (De.bi k x y).tree.flat) r→PE l (.lv (lvO k) a) r:=fun h3 r hs hr=>by
    have hlf:lfO (lvO k)=lvO k:=if_neg h3
    refine IX.2.2 (lvO k) r hl5.1 hl5.2 h3 (by omega) (by omega) ?_
    refine pe_more h3 hs2 (IY.2.1 (lvO k+1) (by omega) (by omega) hyl hs) ?_
    rw [←hflat]
    exact hr
   have own3:(sgE l (a+x.toks.length+1+y.toks.length)).2<lvO k+1→(lvO k≠3→(sgE l (a+x.toks.length+1+y.toks.length)).2≠lvO k)→PE l (.lv (lvO k) a) (.ok (a+x.toks.length+1+y.toks.length) (De.bi k x y).tree.flat):=fun hs hs'=>by
    by_cases h3:lvO k=3
    ·have hlf:lfO (lvO k)=4:=if_pos h3
     have hx4:=IX.2.1 4 (by omega) (by omega) (by omega) (by omega)
     have hy4:=IY.2.1 4 (by omega) (by omega) (by omega) (by omega)
     rw [hflat,h3]
     exact pe_lv (by omega) hx4 (pe_three (by omega) hy4)
    ·exact own h3 _ hs (pe_stop (hs' h3))
   refine ⟨fun h6=>?_,fun n h1 h6 hlv hs=>?_,fun n r h1 h5 h3 hlv hs hr=>?_⟩
   ·have h6:6≤lvO k:=h6
    omega
   ·have hlv:n≤lvO k:=hlv
    exact lv_to (own3 (by omega) (fun _=>by omega)) (by omega) hlv hs
   ·have hlv:n≤lvO k:=hlv
    by_cases hq:n=lvO k
    ·subst hq
     exact own h3 r hs hr
    ·exact pe_lv (by omega) (lv_to (own3 (by omega) (fun _=>by omega)) (by omega) (by omega) hs) hr
end
def Et.need:Et→Nat→Nat
 | .nul _,_=>0
 | .un _ x,_=>x.need 6
 | .bi k x y,n=>(if lvO k<n then 1 else 0)+x.need (lfO (lvO k))+y.need (lvO k+1)
theorem Et.need_mono (t:Et) {n m:Nat} (h:n≤m):t.need n≤t.need m:=by
 cases t with
 | nul _=>exact Nat.le_refl _
 | un _ x=>exact Nat.le_refl _
 | bi k x y=>simp only [Et.need];(repeat' split)<;>omega
theorem Et.need_one (t:Et) (n m:Nat):t.need n≤t.need m+1:=by
 cases t with
 | nul _=>exact Nat.zero_le _
 | un _ x=>simp only [Et.need];omega
 | bi k x y=>simp only [Et.need];(repeat' split)<;>omega
def opnB (t:Tok):Bool:=decide (t.1=4) && (t.2.1 == [40])
def cntB (l:List Tok) (a:Nat):Nat:=(l.take a).countP opnB
theorem cntB_succ (l:List Tok) (a:Nat) (ha:a<l.length):cntB l (a+1)=cntB l a+(if isS l a [40] then 1 else 0):=by
 unfold cntB
 rw [List.take_add_one,List.getElem?_eq_getElem ha,Option.toList_some,List.countP_append]
 congr 1
 have:isS l a [40]=opnB l[a]:=by
  unfold isS opnB tkD
  rw [List.getD_eq_getElem?_getD,List.getElem?_eq_getElem ha]
  rfl
 rw [this]
 cases hb:opnB l[a]<;>simp [hb]
theorem qa0 (l:List Tok) {a b:Nat} (h:a≤b):cntB l a≤cntB l b:=by
 unfold cntB
 have:l.take a=(l.take b).take a:=by rw [List.take_take,Nat.min_eq_left h]
 rw [this]
 exact (List.take_sublist a (l.take b)).countP_le
theorem cntB_le (l:List Tok) (a:Nat):cntB l a≤l.countP opnB:=(List.take_sublist a l).countP_le
def needS (l:List Tok):PS→PR→Prop
 | .lv n a,.ok b e=>∃ t:Et,t.wf∧e=t.flat∧cntB l a+t.need n≤cntB l b
 | .un a,.ok b e=>∃ t:Et,t.wf∧e=t.flat∧cntB l a+t.need 6≤cntB l b
 | .lp n a e0,.ok b e=>∀ (t:Et) (c:Nat),t.wf→e0=t.flat→c+t.need (lfO n)≤cntB l a→∃ t':Et,t'.wf∧e=t'.flat∧c+t'.need n≤cntB l b
 | _,_=>True
theorem sgW_lv (w:List UInt8):sgW w=(0,0)∨lvO (sgW w).1=(sgW w).2:=by
 unfold sgW
 (repeat' split)<;>decide
theorem lvl_op {l:List Tok} {b n:Nat} (hs:(sgE l b).2=n) (h1:1≤n):lvO (sgE l b).1=n:=by
 unfold sgE at hs ⊢
 by_cases h4:(tkD l b).1=4
 ·rw [if_pos h4] at hs ⊢
  rcases sgW_lv (tkD l b).2.1 with h | h
  ·rw [h] at hs;have hs:0=n:=hs;omega
  ·rw [h];exact hs
 ·rw [if_neg h4] at hs
  have hs:0=n:=hs
  omega
theorem qb4 {l:List Tok} (hl:toksOK l):∀ (d:Nat) (s:PS) (r:PR),1≤s.lvl→s.at<l.length→go l d s=some r→needS l s r
 | 0,s,r,_,_,h=>by cases h
 | d+1,.lv n a,r,h1,ha,h=>by
   have ha:a<l.length:=ha
   have h1:1≤n:=h1
   rw [go] at h
   split at h
   ·rename_i h6
    have:=qb4 hl d _ r (by show 1≤6;omega) (by exact ha) h
    subst h6
    cases r<;>exact this
   ·rcases qba h with ⟨b,e,g1,g2⟩ | ⟨k,g1,rfl⟩
    ·have hbd:=qct hl d (.lv (n+1) a) _ (by show 1≤n+1;omega) (by exact ha) g1
     obtain ⟨t,t1,t2,t3⟩:=qb4 hl d (.lv (n+1) a) _ (by show 1≤n+1;omega) (by exact ha) g1
     have g3:=qb4 hl d (.lp n b e) r h1 hbd.2.1 g2
     cases r with
     | bad k=>exact trivial
     | ok c e2=>
       refine g3 t _ t1 t2 (Nat.le_trans (Nat.add_le_add_left (t.need_mono ?_) _) t3)
       unfold lfO
       split<;>omega
    ·exact trivial
 | d+1,.lp n b e,r,h1,hb,h=>by
   have hb:b<l.length:=hb
   have h1:1≤n:=h1
   rw [go] at h
   split at h
   ·rename_i hs
    obtain ⟨o1,o2,o3⟩:=sgE_op hs h1
    have hlo:=lvl_op hs h1
    have hb1:=qas hl hb (Ty.dflt ty85) (by rw [show (l.getD b (Ty.dflt ty85)).1=4 from o3];decide)
    rcases qba h with ⟨c,e2,g1,g2⟩ | ⟨k,g1,rfl⟩
    ·have hbd:=qct hl d (.lv (n+1) (b+1)) _ (by show 1≤n+1;omega) hb1 g1
     obtain ⟨u,u1,u2,u3⟩:=qb4 hl d (.lv (n+1) (b+1)) _ (by show 1≤n+1;omega) hb1 g1
     have hm:=qa0 l (show b≤b+1 by omega)
     have key:∀ (t:Et) (k:Nat),t.wf→e=t.flat→k+t.need (lfO n)≤cntB l b→(Et.bi (sgE l b).1 t u).wf∧e++e2++[((sgE l b).1,0,[],[])]=(Et.bi (sgE l b).1 t u).flat∧k+(Et.bi (sgE l b).1 t u).need n≤cntB l c:=fun t k t1 t2 t3=>by
      refine ⟨⟨⟨o1,o2⟩,t1,u1⟩,by rw [t2,u2];rfl,?_⟩
      simp only [Et.need,hlo]
      rw [if_neg (by omega)]
      omega
     split at g2
     ·cases g2
      exact fun t k t1 t2 t3=>⟨_,key t k t1 t2 t3⟩
     ·rename_i h3
      have g3:=qb4 hl d (.lp n c _) r h1 hbd.2.1 g2
      cases r with
      | bad k=>exact trivial
      | ok c' e'=>
        intro t k t1 t2 t3
        obtain ⟨q1,q2,q3⟩:=key t k t1 t2 t3
        exact g3 _ k q1 q2 (by rw [show lfO n=n from if_neg h3];exact q3)
    ·exact trivial
   ·cases h
    intro t k t1 t2 t3
    refine ⟨t,t1,t2,Nat.le_trans (Nat.add_le_add_left (t.need_mono ?_) _) t3⟩
    unfold lfO
    split<;>omega
 | d+1,.un a,r,h1,ha,h=>by
   have ha:a<l.length:=ha
   have hnx:=qas hl ha (Ty.dflt ty85)
   obtain ⟨ht1,⟨ht2,ht3⟩,ht4⟩:=qcs hl ha (Ty.dflt ty85)
   have hm:=qa0 l (show a≤a+1 by omega)
   have pre:∀ (op:Int),(op=4∨op=5)→(tkD l a).1=4→onOk (go l d (.un (a+1))) (fun b e=>some (.ok b (e++[(op,0,[],[])])))=some r→needS l (.un a) r:=fun op hop h4 h=>by
    have hb1:=hnx (by rw [show (l.getD a (Ty.dflt ty85)).1=4 from h4];decide)
    rcases qba h with ⟨c,e2,g1,g2⟩ | ⟨k,g1,rfl⟩
    ·obtain ⟨t,t1,t2,t3⟩:=qb4 hl d (.un (a+1)) _ (by show 1≤6;omega) hb1 g1
     cases g2
     exact ⟨.un op t,⟨hop,t1⟩,by rw [t2];rfl,by simp only [Et.need];omega⟩
    ·exact trivial
   have one:∀ (t:Trm) (c:Nat),nulT t→a≤c→r=.ok c [t]→needS l (.un a) r:=fun t c hnul hc e=>by
    subst e
    exact ⟨.nul t,hnul,rfl,by simp only [Et.need];exact qa0 l hc⟩
   rw [go] at h
   split at h
   ·rename_i hs;exact pre 4 (.inl rfl) (qch hs) h
   ·split at h
    ·rename_i hs;exact pre 5 (.inr rfl) (qch hs) h
    ·split at h
     ·rename_i hk
      exact one _ _ ⟨mayN (ht2 hk),.inl rfl⟩ (by omega) (Option.some.inj h).symm
     ·split at h
      ·rename_i hk
       have hb1:=hnx (by rw [show (l.getD a (Ty.dflt ty85)).1=2 from hk];decide)
       split at h
       ·rename_i hs
        have hb2:=qas hl hb1 (Ty.dflt ty85) (by rw [show (l.getD (a+1) (Ty.dflt ty85)).1=4 from qch hs];decide)
        split at h
        ·rename_i hk2
         exact one _ _ ⟨mayA (ht3 hk) ((qcs hl hb2 (Ty.dflt ty85)).2.1.2 hk2),.inr (.inr rfl)⟩ (by omega) (Option.some.inj h).symm
        ·cases h;exact trivial
       ·exact one _ _ ⟨mayV (ht3 hk),.inr (.inl rfl)⟩ (by omega) (Option.some.inj h).symm
      ·split at h
       ·rename_i hs
        have hb1:=hnx (by rw [show (l.getD a (Ty.dflt ty85)).1=4 from qch hs];decide)
        have hc:=cntB_succ l a ha
        rw [if_pos hs] at hc
        rcases qba h with ⟨c,e2,g1,g2⟩ | ⟨k,g1,rfl⟩
        ·obtain ⟨t,t1,t2,t3⟩:=qb4 hl d (.lv 1 (a+1)) _ (Nat.le_refl 1) hb1 g1
         split at g2
         ·cases g2
          have hm2:=qa0 l (show c≤c+1 by omega)
          have:=t.need_one 6 1
          exact ⟨t,t1,t2,by omega⟩
         ·cases g2;exact trivial
        ·exact trivial
       ·cases h;exact trivial
theorem PE.need {l:List Tok} (hl:toksOK l) {a b:Nat} {e:List Trm} (ha:a<l.length) (h:PE l (.lv 1 a) (.ok b e)):∃ t:Et,t.wf∧e=t.flat∧t.need 1≤l.countP opnB:=by
 obtain ⟨d,h⟩:=h.run
 obtain ⟨t,h1,h2,h3⟩:=qb4 hl d (.lv 1 a) _ (Nat.le_refl 1) ha h
 exact ⟨t,h1,h2,by have:=cntB_le l b;omega⟩
end Go.Proofs.YtkmpkebaloejhaaDoor.Av
