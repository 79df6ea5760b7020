/- The plain law of ExprBlanks: what its twin computes answers true. Conditions: none. -/
import Derived.Test.YtkmpkebaloejhaaDoorEl2
import Derived.Test.YtkmpkebaloejhaaDoorRead
import Derived.KernelRfl
set_option linter.unusedSimpArgs false
set_option linter.unusedVariables false
set_option maxRecDepth 100000
namespace Go.Proofs.YtkmpkebaloejhaaDoor.Av
open Go
theorem qal (a b:Int):Ops.lt Ops.std a b=decide (a<b):=rfl
theorem qap (a b:Int):Ops.eq Ops.std a b=decide (a=b):=rfl
theorem qa2 (n b:Nat):Ops.lim Ops.std n b=decide (n*b≤140737488355328):=rfl
theorem qbt (a b:Int):Ops.le Ops.std a b=decide (a≤b):=by
 simp only [Ops.le,qal]
 by_cases h:a≤b
 ·have:¬ b<a:=by omega
  simp [h,this]
 ·have:b<a:=by omega
  simp [h,this]
theorem qam (j:Int) (n:Nat):Ops.inb Ops.std j n=decide (0≤j∧j<(n:Int)):=by
 simp only [Ops.inb,qal]
 by_cases h:j<0
 ·have:¬ (0≤j∧j<(n:Int)):=by omega
  simp [h,this]
 ·by_cases h2:j<(n:Int)
  ·have:(0≤j∧j<(n:Int)):=by omega
   simp [h,h2,this]
  ·have:¬ (0≤j∧j<(n:Int)):=by omega
   simp [h,h2,this]
theorem qaa {α:Type} (p:Prop) [Decidable p] (x y:α):cond (decide p) x y=if p then x else y:=by by_cases h:p<;>simp [h]
theorem qb3 (p:Prop) [Decidable p]:(!decide p)=decide (¬ p):=by by_cases h:p<;>simp [h]
theorem ob_s {α R:Type} (a:α) (f:α→Option R):ob (some a) f=f a:=rfl
theorem cond_t {α:Type} (x y:α):cond true x y=x:=rfl
theorem cond_f {α:Type} (x y:α):cond false x y=y:=rfl
theorem wrap64 {n:Int} (h1:-9223372036854775808≤n) (h2:n≤9223372036854775807):IntKind.wrap IntKind.i64 n=n:=wrap_id h1 h2
theorem qai (n:Nat):Int.toNat (Nat.cast n)=n:=Int.toNat_natCast n
theorem qa5 {α:Type} (l:List α) (x:α) (r:List α) (d:α):(l++x::r).getD l.length d=x:=by
 rw [List.getD_eq_getElem?_getD,List.getElem?_append_right (Nat.le_refl _)];simp
theorem qb8 {α:Type} {s:List α} {n:Nat} (d:α) (h:n<s.length):s.drop n=s.getD n d::s.drop (n+1):=by
 rw [List.drop_eq_getElem_cons h]
 congr 1
 simp [List.getD_eq_getElem?_getD,List.getElem?_eq_getElem h]
theorem pickN (x:Int) (n:Nat) (h0:0<n) (h1:n<1000000):∃ k:Nat,k<n∧M24 x (n:Nat)=some (k:Int):=by
 show ∃ k:Nat,k<n∧T24 Ops.std x (n:Nat) some=_
 unfold T24
 simp only [qap,qal,qaa]
 rw [if_neg (by omega)]
 have h2:=Int.tmod_lt_of_pos x (show (0:Int)<(n:Nat) by omega)
 have h3:=Int.lt_tmod_of_pos x (show (0:Int)<(n:Nat) by omega)
 generalize Int.tmod x (n:Nat)=q at h2 h3 ⊢
 by_cases hq:q<0
 ·refine ⟨(q+n).toNat,by omega,?_⟩
  rw [if_pos hq,wrap64 (by omega) (by omega)]
  congr 1;omega
 ·refine ⟨q.toNat,by omega,?_⟩
  rw [if_neg hq]
  congr 1;omega
theorem next_ok (l:List Int) (pl:Nat) (a:Nat) (ha:a≤1000) (n:Nat) (h0:0<n) (h1:n<1000):∃ (k a':Nat),k<n∧a≤a'∧a'≤a+1∧M90 (n:Nat) l (a:Nat)=some ((k:Int),l,(a':Int)):=by
 show ∃ (k a':Nat),k<n∧a≤a'∧a'≤a+1∧T90 Ops.std M24 (n:Nat) l (a:Nat) some=_
 unfold T90
 simp only [qap,qam,qaa]
 by_cases hl:(l.length:Int)=0
 ·rw [if_pos hl]
  exact ⟨0,a,h0,Nat.le_refl _,by omega,rfl⟩
 ·have hw:IntKind.wrap IntKind.i64 ((a:Int)+1)=((a+1:Nat):Int):=qaj (by omega)
  rw [if_neg hl,if_neg hl,hw]
  have ht:Int.tmod ((a+1:Nat):Int) (l.length:Nat)=(((a+1) % l.length:Nat):Int):=by rw [←Int.ofNat_tmod]
  have hd:Int.tdiv ((a+1:Nat):Int) (l.length:Nat)=(((a+1) / l.length:Nat):Int):=by rw [←Int.ofNat_tdiv]
  rw [ht,hd]
  have hlp:0<l.length:=by omega
  have hm:=Nat.mod_lt (a+1) hlp
  have hq:(a+1) / l.length≤a+1:=Nat.div_le_self _ _
  generalize (a+1) / l.length=q at hq ⊢
  generalize (a+1) % l.length=m at hm ⊢
  rw [if_pos (by omega),if_neg hl,wrap64 (n:=(q:Int)) (by omega) (by omega),wrap64 (n:=1+(q:Int)) (by omega) (by omega),if_neg (by omega)]
  obtain ⟨k,hk,hp⟩:=pickN (IntKind.wrap IntKind.i64 (Int.tdiv (l.getD (Int.toNat (m:Int)) (Ty.dflt ty3)) (1+(q:Int)))) n h0 (by omega)
  rw [hp,ob_s]
  exact ⟨k,a+1,hk,by omega,by omega,rfl⟩
def fA:Nat→Nat
 | 0=>3
 | h+1=>2*fA h+3
def FOk (l:List Int) (o:Option (List UInt8×List Int×Int)) (a b c:Nat):Prop:=∃ (s:List UInt8) (a':Nat),o=some (s,l,(a':Int))∧s.length≤b∧a≤a'∧a'≤a+c
theorem qck {l:List (List UInt8)} {n:Nat} (h:l.all (fun x=>decide (x.length≤n))=true) (k:Nat):(l.getD k []).length≤n:=by
 rw [List.getD_eq_getElem?_getD]
 cases hk:l[k]? with
 | none=>simp
 | some x=>
   rw [List.all_eq_true] at h
   simpa using h x (List.mem_of_getElem? hk)
theorem FOk.mono {l:List Int} {o:Option (List UInt8×List Int×Int)} {a b c b' c':Nat} (h:FOk l o a b c) (hb:b≤b') (hc:c≤c'):FOk l o a b' c':=by
 obtain ⟨s,a',e1,e2,e3,e4⟩:=h
 exact ⟨s,a',e1,by omega,e3,by omega⟩
def eB:Nat→Nat
 | 0=>10
 | h+1=>2*eB h+10
theorem eB_le:∀ h,h≤4→eB h≤310∧fA h≤93:=by
 intro h hh
 match h with
 | 0 | 1 | 2 | 3 | 4=>decide
noncomputable abbrev nxt:=M90
theorem qdh (l:List Int) (a:Nat) (ha:a≤1000) (n:Nat) (m:Int) (hm:m=(n:Nat)) (h0:0<n) (h1:n<1000):∃ (k a':Nat),k<n∧a≤a'∧a'≤a+1∧M90 m l (a:Nat)=some ((k:Int),l,(a':Int)):=by
 subst hm
 exact next_ok l 0 a ha n h0 h1
theorem expr_k (l:List Int) (deep:Int) (d:Nat) (l0:List Int) (a0:Int) (B A:Nat) (hB:B≤310) (hA:A≤93) (k:Nat) (hk:k<20) (V:Nat) (hV:V≤900) (hrec:k<14→∀ a:Nat,a≤V→FOk l (Rec49 d (IntKind.wrap IntKind.i64 (deep+1)) l a) a B A) (a:Nat) (ha:a+A+5≤V) (n:Nat) :
  FOk l (R49 M90 (Rec49 d) deep l0 a0 (n+1) (.l1004 k l a)) a (2*B+10) (2*A+2):=by
 show FOk l (T49 Ops.std M90 (Rec49 d) deep l0 a0 _ some _) a _ _
 unfold T49
 simp only [qal,qap,qam,qa2,qaa,mt]
 by_cases h10:(k:Int)<10
 ·obtain ⟨s,a1,e1,e2,e3,e4⟩:=hrec (by omega) a (by omega)
  obtain ⟨s2,a2,f1,f2,f3,f4⟩:=hrec (by omega) a1 (by omega)
  rw [if_pos h10,e1,ob_s]
  dsimp only
  rw [f1,ob_s]
  dsimp only
  obtain ⟨j,a3,g1,g2,g3,g4⟩:=qdh l a2 (by omega) 11 11 rfl (by omega) (by omega)
  rw [g4,ob_s]
  dsimp only
  rw [if_pos (by omega)]
  obtain ⟨i,a4,i1,i2,i3,i4⟩:=qdh l a3 (by omega) 2 2 rfl (by omega) (by omega)
  rw [i4,ob_s]
  dsimp only
  have hlen:=qck (n:=2) (l:=[[43],[45],[42],[60],[60,61],[61,61],[33,61],[38,38],[124,124],[62],[62,61]]) rfl (Int.toNat (j:Int))
  generalize ([[43],[45],[42],[60],[60,61],[61,61],[33,61],[38,38],[124,124],[62],[62,61]]:List (List UInt8)).getD (Int.toNat (j:Int)) []=x at hlen ⊢
  simp only [List.length_append,List.length_cons,List.length_nil]
  by_cases hi:(i:Int)=0
  ·rw [if_pos hi,if_pos (by omega),if_pos (by omega),if_pos (by omega),if_pos (by omega),if_pos (by omega),if_pos (by omega)]
   exact ⟨_,a4,rfl,by simp;omega,by omega,by omega⟩
  ·rw [if_neg hi,if_pos (by omega),if_pos (by omega),if_pos (by omega),if_pos (by omega),if_pos (by omega),if_pos (by omega)]
   exact ⟨_,a4,rfl,by simp;omega,by omega,by omega⟩
 ·rw [if_neg h10]
  by_cases h:(k:Int)=10
  ·obtain ⟨s,a1,e1,e2,e3,e4⟩:=hrec (by omega) a (by omega)
   rw [if_pos h,e1,ob_s]
   dsimp only
   simp only [List.length_append,List.length_cons,List.length_nil]
   rw [if_pos (by omega),if_pos (by omega)]
   exact ⟨_,a1,rfl,by simp;omega,by omega,by omega⟩
  ·rw [if_neg h]
   clear h
   by_cases h:(k:Int)=11
   ·obtain ⟨s,a1,e1,e2,e3,e4⟩:=hrec (by omega) a (by omega)
    rw [if_pos h,e1,ob_s]
    dsimp only
    simp only [List.length_append,List.length_cons,List.length_nil]
    rw [if_pos (by omega),if_pos (by omega)]
    exact ⟨_,a1,rfl,by simp;omega,by omega,by omega⟩
   ·rw [if_neg h]
    clear h
    by_cases h:(k:Int)=12
    ·obtain ⟨s,a1,e1,e2,e3,e4⟩:=hrec (by omega) a (by omega)
     obtain ⟨s2,a2,f1,f2,f3,f4⟩:=hrec (by omega) a1 (by omega)
     rw [if_pos h,e1,ob_s]
     dsimp only
     rw [if_pos (by omega),f1,ob_s]
     dsimp only
     simp only [List.length_append,List.length_cons,List.length_nil]
     rw [if_pos (by omega)]
     exact ⟨_,a2,rfl,by simp;omega,by omega,by omega⟩
    ·rw [if_neg h]
     clear h
     by_cases h:(k:Int)=13
     ·obtain ⟨s,a1,e1,e2,e3,e4⟩:=hrec (by omega) a (by omega)
      rw [if_pos h,e1,ob_s]
      dsimp only
      rw [if_pos (by omega)]
      exact ⟨_,a1,rfl,by simp;omega,by omega,by omega⟩
     ·rw [if_neg h]
      clear h hrec
      have hnum:FOk l (ob (M90 4 l a) fun y0=>if (0:Int)≤Prod.fst y0∧Prod.fst y0<(4:Int) then some (([[48],[49],[50],[48,48,55]]:List (List UInt8)).getD (Int.toNat (Prod.fst y0)) [],Prod.fst (Prod.snd y0),Prod.snd (Prod.snd y0)) else none) a (2*B+10) (2*A+2):=by
       obtain ⟨j,a3,g1,g2,g3,g4⟩:=qdh l a (by omega) 4 4 rfl (by omega) (by omega)
       rw [g4,ob_s]
       dsimp only
       rw [if_pos (by omega)]
       have hlen:=qck (n:=3) (l:=[[48],[49],[50],[48,48,55]]) rfl (Int.toNat (j:Int))
       exact ⟨_,a3,rfl,by omega,by omega,by omega⟩
      by_cases h:(k:Int)=14
      ·rw [if_pos h];exact hnum
      ·rw [if_neg h]
       clear h
       by_cases h:(k:Int)=15
       ·rw [if_pos h];exact hnum
       ·rw [if_neg h]
        clear h hnum
        by_cases h:(k:Int)=16
        ·rw [if_pos h]
         obtain ⟨j,a3,g1,g2,g3,g4⟩:=qdh l a (by omega) 2 2 rfl (by omega) (by omega)
         obtain ⟨i,a4,i1,i2,i3,i4⟩:=qdh l a3 (by omega) 3 3 rfl (by omega) (by omega)
         rw [g4,ob_s]
         dsimp only
         have hlen:=qck (n:=1) (l:=[[112],[113],[114]]) rfl (Int.toNat (j:Int))
         have hlen2:=qck (n:=1) (l:=[[97],[98],[99],[100]]) rfl (Int.toNat (i:Int))
         generalize ([[112],[113],[114]]:List (List UInt8)).getD (Int.toNat (j:Int)) []=x at hlen ⊢
         rw [if_pos (by omega),if_pos (by omega),i4,ob_s]
         dsimp only
         generalize ([[97],[98],[99],[100]]:List (List UInt8)).getD (Int.toNat (i:Int)) []=y at hlen2 ⊢
         simp only [List.length_append,List.length_cons,List.length_nil]
         rw [if_pos (by omega),if_pos (by omega)]
         exact ⟨_,a4,rfl,by simp;omega,by omega,by omega⟩
        ·rw [if_neg h]
         obtain ⟨j,a3,g1,g2,g3,g4⟩:=qdh l a (by omega) 2 2 rfl (by omega) (by omega)
         rw [g4,ob_s]
         dsimp only
         rw [if_pos (by omega)]
         have hlen:=qck (n:=1) (l:=[[120],[121],[122]]) rfl (Int.toNat (j:Int))
         exact ⟨_,a3,rfl,by omega,by omega,by omega⟩
theorem expr_h (l:List Int):∀ (h:Nat),h≤4→∀ (d:Nat),h<d→∀ (a:Nat),a≤800-150*h→FOk l (Rec49 d ((4-h:Nat):Int) l a) a (eB h) (fA h):=by
 intro h
 induction h with
 | zero=>
   intro hh d hd a ha
   obtain ⟨e,rfl⟩:∃ e,d=e+1:=⟨d-1,by omega⟩
   show FOk l (T49 Ops.std M90 (Rec49 e) ((4-0:Nat):Int) l a (R49 M90 (Rec49 e) ((4-0:Nat):Int) l a 1000000) some none) a _ _
   unfold T49
   obtain ⟨k,a1,e1,e2,e3,e4⟩:=qdh l a (by omega) 20 20 rfl (by omega) (by omega)
   rw [e4,ob_s]
   simp only [qal,qap,qaa]
   rw [if_pos (by omega),if_neg (by omega)]
   have ht:Int.tmod (k:Int) 6=((k % 6:Nat):Int):=by rw [show (6:Int)=((6:Nat):Int) from rfl,←Int.ofNat_tmod]
   rw [ht,show IntKind.wrap IntKind.i64 (14+((k % 6:Nat):Int))=((14+k % 6:Nat):Int) by rw [wrap64 (by omega) (by omega)];omega]
   have:=expr_k l ((4-0:Nat):Int) e l (a:Int) 0 0 (by omega) (by omega) (14+k % 6) (by omega) 900 (by omega) (fun h=>by omega) a1 (by omega) 999999
   obtain ⟨s,a',g1,g2,g3,g4⟩:=this
   exact ⟨s,a',g1,by simp [eB];omega,by omega,by simp [fA];omega⟩
 | succ h ih=>
   intro hh d hd a ha
   obtain ⟨e,rfl⟩:∃ e,d=e+1:=⟨d-1,by omega⟩
   have hb:=eB_le h (by omega)
   have hb3:fA h≤45:=by
    have:h≤3:=by omega
    match h,this with
    | 0,_ | 1,_ | 2,_ | 3,_=>decide
   show FOk l (T49 Ops.std M90 (Rec49 e) ((4-(h+1):Nat):Int) l a (R49 M90 (Rec49 e) ((4-(h+1):Nat):Int) l a 1000000) some none) a _ _
   unfold T49
   obtain ⟨k,a1,e1,e2,e3,e4⟩:=qdh l a (by omega) 20 20 rfl (by omega) (by omega)
   rw [e4,ob_s]
   simp only [qal,qap,qaa]
   rw [if_neg (by omega)]
   have hdeep:IntKind.wrap IntKind.i64 (((4-(h+1):Nat):Int)+1)=((4-h:Nat):Int):=by rw [wrap64 (by omega) (by omega)];omega
   have hrec:∀ a:Nat,a≤800-150*h→FOk l (Rec49 e (IntKind.wrap IntKind.i64 (((4-(h+1):Nat):Int)+1)) l a) a (eB h) (fA h):=fun a ha=>by
    rw [hdeep];exact ih (by omega) e (by omega) a ha
   have step:=fun (k:Nat) (hk:k<20)=>expr_k l ((4-(h+1):Nat):Int) e l (a:Int) (eB h) (fA h) (by omega) (by omega) k hk (800-150*h) (by omega) (fun _=>hrec) a1 (by omega) 999999
   have fin:∀ o,FOk l o a1 (2*eB h+10) (2*fA h+2)→FOk l o a (eB (h+1)) (fA (h+1)):=fun o ho=>by
    obtain ⟨s,a',g1,g2,g3,g4⟩:=ho
    exact ⟨s,a',g1,by simp only [eB];omega,by omega,by simp only [fA];omega⟩
   have ht:Int.tmod (k:Int) 6=((k % 6:Nat):Int):=by rw [show (6:Int)=((6:Nat):Int) from rfl,←Int.ofNat_tmod]
   split
   ·rw [if_neg (by omega),ht,show IntKind.wrap IntKind.i64 (14+((k % 6:Nat):Int))=((14+k % 6:Nat):Int) by rw [wrap64 (by omega) (by omega)];omega]
    exact fin _ (step (14+k % 6) (by omega))
   ·exact fin _ (step k e1)
theorem expr_ok (l:List Int) (h:Nat) (hh:h≤4) (m:Int) (hm:m=((4-h:Nat):Int)) (a:Nat) (ha:a≤200):FOk l (M49 m l a) a 310 93:=by
 subst hm
 have hb:=eB_le h hh
 obtain ⟨s,a',e1,e2,e3,e4⟩:=expr_h l h hh 1000000 (by omega) a (by omega)
 exact ⟨s,a',e1,by omega,e3,by omega⟩
theorem Expr_ok (l:List Int):∃ s:List UInt8,M16 l=some s∧s.length≤310:=by
 obtain ⟨s,a',e1,e2,e3,e4⟩:=expr_ok l 4 (by omega) 0 rfl 0 (by omega)
 refine ⟨s,?_,e2⟩
 show T16 Ops.std M49 l some=_
 unfold T16
 have e1':M49 0 l 0=some (s,l,(a':Int)):=e1
 rw [e1',ob_s]
section
variable (p0 p1:Int) (p2:List (List Int))
end
def digitP' (b:UInt8):Bool:=decide (48≤b.toNat) && decide (b.toNat≤57)
def lowerP (b:UInt8):Bool:=(decide (97≤b.toNat) && decide (b.toNat≤122)) || decide (b.toNat=95)
def wordP (b:UInt8):Bool:=lowerP b || digitP' b
def isWordP:List UInt8→Bool
 | []=>false
 | b::r=>lowerP b && r.all wordP && decide (r.length+1≤8)
theorem qcf (b:UInt8):M105 (b.toNat:Int)=some (lowerP b):=by
 show T105 Ops.std _ some=_
 unfold T105 lowerP
 simp only [qbt,qap,qaa]
 have e1:((97:Int)≤(b.toNat:Int))↔97≤b.toNat:=by omega
 have e2:((b.toNat:Int)≤(122:Int))↔b.toNat≤122:=by omega
 have e3:((b.toNat:Int)=(95:Int))↔b.toNat=95:=by omega
 simp only [e1,e2,e3]
 by_cases h1:97≤b.toNat<;>by_cases h2:b.toNat≤122<;>by_cases h3:b.toNat=95<;>simp [h1,h2,h3]
theorem qc5 (b:UInt8):M102 (b.toNat:Int)=some (digitP' b):=by
 show T102 Ops.std _ some=_
 unfold T102 digitP'
 simp only [qbt,qap,qaa]
 have e1:((48:Int)≤(b.toNat:Int))↔48≤b.toNat:=by omega
 have e2:((b.toNat:Int)≤(57:Int))↔b.toNat≤57:=by omega
 simp only [e1,e2]
 by_cases h1:48≤b.toNat<;>by_cases h2:b.toNat≤57<;>simp [h1,h2]
theorem within_prog (b:UInt8):M106 (b.toNat:Int)=some (wordP b):=by
 show T106 Ops.std M105 M102 _ some=_
 unfold T106 wordP
 rw [qcf,qc5]
 simp only [ob_s]
 cases lowerP b<;>rfl
theorem run_prog {p:UInt8→Bool} {c:Int→Option Bool} (hc:∀ b:UInt8,c (b.toNat:Int)=some (p b)) (s:List UInt8) (hs:s.length<900000):F103 c s=some (s.takeWhile p):=by
 have h:∀ (t i n:Nat),i+t=s.length→t<n→R103 c s n (.l0 i)=some (s.take i++(s.drop i).takeWhile p):=by
  intro t
  induction t with
  | zero=>
    intro i n hi hn
    cases n with
    | zero=>omega
    | succ n=>
      show T103 Ops.std c s _ some _=_
      unfold T103
      simp only [qal,qam,qaa,qai]
      rw [if_neg (by omega),if_pos (by omega),List.drop_eq_nil_of_le (show s.length≤i by omega)]
      simp
  | succ t ih=>
    intro i n hi hn
    cases n with
    | zero=>omega
    | succ n=>
      have hlt:i<s.length:=by omega
      show T103 Ops.std c s _ some _=_
      unfold T103
      have hw:IntKind.wrap IntKind.i64 ((i:Int)+1)=((i+1:Nat):Int):=qaj (by omega)
      simp only [qal,qam,qaa,qai]
      rw [if_pos (by omega),if_pos (by omega),hc,ob_s,qd6 hlt]
      cases hp:p (s.getD i 0) with
      | true=>
        simp only [cond_true]
        rw [hw,ih (i+1) n (by omega) (by omega),List.takeWhile_cons_of_pos hp]
        have:s.take (i+1)=s.take i++[s.getD i 0]:=by
         rw [List.take_add_one]
         simp [List.getD_eq_getElem?_getD,List.getElem?_eq_getElem hlt]
        rw [this]
        simp
      | false=>
        simp only [cond_false]
        rw [if_pos (by omega),List.takeWhile_cons_of_neg (by rw [hp];decide)]
        simp
 show T103 Ops.std c s _ some none=_
 unfold T103
 have:=h s.length 0 1000000 (by omega) (by omega)
 rw [List.take_zero,List.drop_zero,List.nil_append] at this
 exact this
theorem runW_prog (s:List UInt8) (hs:s.length<900000):M103 s=some (s.takeWhile wordP):=run_prog within_prog s hs
theorem qbu {α:Type} (p:α→Bool):∀ l:List α,l.takeWhile p=l↔l.all p=true
 | []=>by simp
 | a::l=>by
   rw [List.takeWhile_cons,List.all_cons]
   cases hp:p a with
   | true=>simp [qbu p l]
   | false=>simp
theorem qb9 {b:UInt8} (h:lowerP b=true):wordP b=true:=by unfold wordP;rw [h];rfl
theorem isWord_prog (s:List UInt8):M95 s=some (isWordP s):=by
 unfold M95 F95 T95
 cases s with
 | nil=>rfl
 | cons b r=>
   simp only [qbt,qam,qaa,isWordP,List.length_cons]
   have e1:(!(b::r) == ([]:List UInt8))=true:=rfl
   rw [e1,cond_t]
   by_cases h8:r.length+1≤8
   ·rw [if_pos (by omega),if_pos (by omega),show (b::r).getD (Int.toNat 0) 0=b from rfl,qcf,ob_s]
    cases hl:lowerP b with
    | false=>simp
    | true=>
      simp only [cond_true]
      rw [runW_prog _ (by simp;omega),ob_s]
      have hb:=qb9 hl
      simp only [Bool.true_and,h8,decide_true,Bool.and_true,Option.some.injEq]
      rw [Bool.eq_iff_iff,beq_iff_eq,qbu,List.all_cons,hb,Bool.true_and]
   ·rw [if_neg (by omega)]
    simp [h8]
def okL (L:Nat) (l:List (List UInt8)):Prop:=∀ w∈l,w.length≤L
theorem okL.app {L:Nat} {l:List (List UInt8)} {w:List UInt8} (h:okL L l) (hw:w.length≤L):okL L (l++[w]):=fun x hx=>by
 rcases List.mem_append.1 hx with hx | hx
 ·exact h x hx
 ·simp only [List.mem_singleton] at hx;rw [hx];exact hw
theorem okL.get {L:Nat} {l:List (List UInt8)} (h:okL L l) (k:Nat):(l.getD k []).length≤L:=by
 rw [List.getD_eq_getElem?_getD]
 by_cases hk:k<l.length
 ·rw [List.getElem?_eq_getElem hk];exact h _ (List.getElem_mem hk)
 ·rw [List.getElem?_eq_none (by omega)];simp
abbrev Tok:=Int×List UInt8×Int×Int
def blankP (b:UInt8):Bool:=decide (b.toNat=32) || (decide (b.toNat=9) || decide (b.toNat=10))
def letterP (b:UInt8):Bool:=decide (b.toNat=88) || (decide (b.toNat=70) || (decide (b.toNat=71) || (decide (b.toNat=85) || decide (b.toNat=82))))
def valW (w:List UInt8):Int:=w.foldl (fun n b=>10*n+((b.toNat:Int)-48)) 0
def twos:List (List UInt8):=[[60,61],[62,61],[61,61],[33,61],[38,38],[124,124],[45,62]]
def ones:List UInt8:=[40,41,91,93,43,45,42,60,62,33,64,59,61]
def signS (s:List UInt8):List UInt8:=
 match twos.find? (fun p=>decide (1<s.length) && (s.take 2 == p)) with
 | some p=>p
 | none=>match ones.find? (fun b=>s.take 1 == [b]) with
   | some b=>s.take 1
   | none=>[]
def tokS (s:List UInt8):Option (Int×List UInt8×Int):=
 match s with
 | []=>none
 | b::r=>if digitP' b then (if (s.takeWhile digitP').length≤3 then some (1,s.takeWhile digitP',valW (s.takeWhile digitP')) else none)
   else if lowerP b then (if (s.takeWhile wordP).length≤8 then some (2,s.takeWhile wordP,0) else none)
   else if letterP b then some (3,[b],0)
   else if signS s=[] then none else some (4,signS s,0)
def lexGo:Nat→List UInt8→Nat→List Tok→Int×Int×List Tok
 | 0,_,at_,_=>(2,(at_:Int),[])
 | _+1,[],at_,out=>(0,0,out++[((5,[],0,(at_:Int)):Tok)])
 | f+1,b::r,at_,out=>if blankP b then lexGo f r (at_+1) out else
   match tokS (b::r) with
   | none=>(2,(at_:Int),[])
   | some (k,w,n)=>lexGo f ((b::r).drop w.length) (at_+w.length) (out++[((k,w,n,(at_:Int)):Tok)])
def lexS (s:List UInt8):Int×Int×List Tok:=if 60000<s.length then (14,0,[]) else lexGo (s.length+1) s 0 []
theorem qd8 (s:List UInt8):(signS s).length≤2∧(signS s).length≤s.length∧s.take (signS s).length=signS s:=by
 unfold signS
 cases h:twos.find? (fun p=>decide (1<s.length) && (s.take 2 == p)) with
 | some p=>
   have h1:=List.find?_some h
   simp only [Bool.and_eq_true,decide_eq_true_eq,beq_iff_eq] at h1
   simp only []
   rw [←h1.2,List.length_take,Nat.min_eq_left (by omega)]
   exact ⟨by omega,by omega,rfl⟩
 | none=>
   simp only []
   cases h2:ones.find? (fun b=>s.take 1 == [b]) with
   | some b=>
     simp only [List.length_take]
     refine ⟨by omega,by omega,?_⟩
     cases s<;>simp
   | none=>simp
theorem tw_len {p:UInt8→Bool}:∀ (l:List UInt8),(l.takeWhile p).length≤l.length∧l.take (l.takeWhile p).length=l.takeWhile p
 | []=>by simp
 | a::l=>by
   rw [List.takeWhile_cons]
   cases hp:p a with
   | true=>have:=tw_len (p:=p) l;simp [this]
   | false=>simp
theorem valW_snoc (w:List UInt8) (b:UInt8):valW (w++[b])=10*valW w+((b.toNat:Int)-48):=by simp [valW,List.foldl_append]
theorem take_snoc (w:List UInt8) (n:Nat) (h:n<w.length):w.take (n+1)=w.take n++[w.getD n 0]:=by
 rw [List.take_add_one]
 simp [List.getD_eq_getElem?_getD,List.getElem?_eq_getElem h]
theorem wrap8 {n:Int} (h1:0≤n) (h2:n≤255):IntKind.wrap IntKind.u8 n=n:=by
 have e1:(2:Int) ^ IntKind.u8.bits=256:=by decide
 have e3:IntKind.u8.signed=false:=rfl
 simp only [IntKind.wrap,e1,e3,Bool.false_and,decide_eq_true_eq]
 simp
 omega
theorem qbi {b:UInt8} (h:digitP' b=true):48≤b.toNat∧b.toNat≤57:=by
 unfold digitP' at h
 simpa using h
theorem qeq:∀ (n:Nat) (w:List UInt8),w.length=n→(∀ b∈w,digitP' b=true)→0≤valW w∧valW w<10 ^ n:=by
 intro n
 induction n with
 | zero=>intro w hw _;cases w with
   | nil=>simp [valW]
   | cons=>simp at hw
 | succ n ih=>
   intro w hw hd
   have hne:w≠[]:=by intro h;rw [h] at hw;simp at hw
   obtain ⟨l,b,rfl⟩:∃ l b,w=l++[b]:=⟨w.dropLast,w.getLast hne,(List.dropLast_concat_getLast hne).symm⟩
   have h1:=ih l (by simpa using hw) fun b hb=>hd b (by simp [hb])
   have h2:=qbi (hd b (by simp))
   rw [valW_snoc]
   have h3:(10:Int) ^ (n+1)=10*10 ^ n:=by rw [Int.pow_succ];omega
   rw [h3]
   generalize (10:Int) ^ n=q at h1 ⊢
   omega
theorem tw_all {p:UInt8→Bool}:∀ (l:List UInt8),∀ b∈l.takeWhile p,p b=true
 | [],b,h=>by simp at h
 | a::l,b,h=>by
   rw [List.takeWhile_cons] at h
   cases hp:p a with
   | false=>rw [hp] at h;simp at h
   | true=>
     rw [hp] at h
     simp only [if_true,List.mem_cons] at h
     rcases h with rfl | h
     ·exact hp
     ·exact tw_all (p:=p) l b h
section
variable (s:List UInt8) (hs:s.length≤60000)
end
theorem tok_len {s:List UInt8} {k n:Int} {w:List UInt8} (h:tokS s=some (k,w,n)):0<w.length∧w.length≤s.length∧s.take w.length=w∧k≠0∧k≠5:=by
 cases s with
 | nil=>simp [tokS] at h
 | cons b r=>
   simp only [tokS] at h
   split at h
   ·rename_i hd
    split at h
    ·simp only [Option.some.injEq,Prod.mk.injEq] at h
     obtain ⟨rfl,rfl,rfl⟩:=h
     have h1:=tw_len (p:=digitP') (b::r)
     refine ⟨?_,h1.1,h1.2,by decide,by decide⟩
     rw [List.takeWhile_cons,hd];simp
    ·cases h
   ·split at h
    ·rename_i hd hl
     split at h
     ·simp only [Option.some.injEq,Prod.mk.injEq] at h
      obtain ⟨rfl,rfl,rfl⟩:=h
      have h1:=tw_len (p:=wordP) (b::r)
      refine ⟨?_,h1.1,h1.2,by decide,by decide⟩
      rw [List.takeWhile_cons,qb9 hl];simp
     ·cases h
    ·split at h
     ·simp only [Option.some.injEq,Prod.mk.injEq] at h
      obtain ⟨rfl,rfl,rfl⟩:=h
      exact ⟨by simp,by simp,by simp,by decide,by decide⟩
     ·split at h
      ·cases h
      ·rename_i hne
       simp only [Option.some.injEq,Prod.mk.injEq] at h
       obtain ⟨rfl,rfl,rfl⟩:=h
       have h1:=qd8 (b::r)
       refine ⟨?_,h1.2.1,h1.2.2,by decide,by decide⟩
       cases hq:signS (b::r) with
       | nil=>exact absurd hq hne
       | cons=>simp
def tokOK (t:Tok):Prop:=(t.1=1→0≤t.2.2.1∧t.2.2.1≤999)∧(t.1=2→isWordP t.2.1=true)
theorem tokS_ok {s:List UInt8} {k n:Int} {w:List UInt8} (h:tokS s=some (k,w,n)) (x:Int):tokOK (k,w,n,x):=by
 cases s with
 | nil=>simp [tokS] at h
 | cons b r=>
   simp only [tokS] at h
   split at h
   ·rename_i hd
    split at h
    ·rename_i h3
     simp only [Option.some.injEq,Prod.mk.injEq] at h
     obtain ⟨rfl,rfl,rfl⟩:=h
     refine ⟨fun _=>?_,fun h=>(by cases h)⟩
     have:=qeq _ ((b::r).takeWhile digitP') rfl fun b hb=>tw_all _ b hb
     have hl:((b::r).takeWhile digitP').length=0∨((b::r).takeWhile digitP').length=1∨((b::r).takeWhile digitP').length=2∨((b::r).takeWhile digitP').length=3:=by omega
     rcases hl with hl | hl | hl | hl<;>rw [hl] at this<;>simp at this ⊢<;>omega
    ·cases h
   ·split at h
    ·rename_i hd hl
     split at h
     ·rename_i h8
      simp only [Option.some.injEq,Prod.mk.injEq] at h
      obtain ⟨rfl,rfl,rfl⟩:=h
      refine ⟨fun h=>(by cases h),fun _=>?_⟩
      rw [List.takeWhile_cons,qb9 hl] at h8 ⊢
      simp only [if_true,List.length_cons] at h8 ⊢
      simp only [isWordP,hl,Bool.true_and,Bool.and_eq_true,List.all_eq_true,decide_eq_true_eq]
      exact ⟨fun b hb=>tw_all _ b hb,h8⟩
     ·cases h
    ·split at h
     ·simp only [Option.some.injEq,Prod.mk.injEq] at h
      obtain ⟨rfl,rfl,rfl⟩:=h
      exact ⟨fun h=>(by cases h),fun h=>(by cases h)⟩
     ·split at h
      ·cases h
      ·simp only [Option.some.injEq,Prod.mk.injEq] at h
       obtain ⟨rfl,rfl,rfl⟩:=h
       exact ⟨fun h=>(by cases h),fun h=>(by cases h)⟩
def toksOK (l:List Tok):Prop:=∃ (q:List Tok) (x:Int),l=q++[(5,[],0,x)]∧∀ t∈q,t.1≠5∧tokOK t
theorem lexGo_ok:∀ (f:Nat) (s:List UInt8) (a:Nat) (out:List Tok),(∀ t∈out,t.1≠5∧tokOK t)→∀ (e x:Int) (l:List Tok),lexGo f s a out=(e,x,l)→e=0→toksOK l∧l.length≤out.length+s.length+1
 | 0,s,a,out,ho,e,x,l,h,he=>by
   simp only [lexGo,Prod.mk.injEq] at h
   omega
 | f+1,[],a,out,ho,e,x,l,h,he=>by
   simp only [lexGo,Prod.mk.injEq] at h
   obtain ⟨_,_,rfl⟩:=h
   exact ⟨⟨out,a,rfl,ho⟩,by simp⟩
 | f+1,b::r,a,out,ho,e,x,l,h,he=>by
   simp only [lexGo] at h
   split at h
   ·have:=lexGo_ok f r (a+1) out ho e x l h he
    exact ⟨this.1,by simp;omega⟩
   ·split at h
    ·simp only [Prod.mk.injEq] at h
     omega
    ·rename_i k w n ht
     have h1:=tok_len ht
     have:=lexGo_ok f ((b::r).drop w.length) (a+w.length) (out++[(k,w,n,(a:Int))]) (fun t ht'=>by
      rcases List.mem_append.1 ht' with h2 | h2
      ·exact ho t h2
      ·simp at h2;subst h2;exact ⟨h1.2.2.2.2,tokS_ok ht _⟩) e x l h he
     refine ⟨this.1,?_⟩
     have h2:=this.2
     simp only [List.length_append,List.length_cons,List.length_nil,List.length_drop] at h2 ⊢
     omega
theorem lexS_ok {s:List UInt8} {x:Int} {l:List Tok} (h:lexS s=(0,x,l)):toksOK l∧l.length≤s.length+1∧s.length≤60000:=by
 unfold lexS at h
 split at h
 ·simp at h
 ·have:=lexGo_ok _ s 0 [] (by simp) 0 x l h rfl
  exact ⟨this.1,by simpa using this.2,by omega⟩
abbrev Trm:=Int×Int×List UInt8×List UInt8
def opn (k:Int):Int:=
 if k=1∨k=2∨k=3 then 0 else if k=4∨k=8∨k=11∨k=12 then 1 else if k=5∨k=6∨k=7∨k=9∨k=10 then 2 else -1
section
variable {X:Type} (E:List X→Bool)
def badP (p:Int×List X) (d:Int):Bool:=
 decide (opn p.1<0) || decide (d<opn p.1) || (decide (p.1=3) && !E p.2) || (!decide (p.1=3) && decide (0<p.2.length))
def rGo:List (Int×List X)→Int→Option Int
 | [],d=>some d
 | p::r,d=>if badP E p d then none else rGo r (d+1-opn p.1)
inductive Fm (X:Type) where
 | nul (p:Int×List X)
 | un (p:Int×List X) (a:Fm X)
 | bi (p:Int×List X) (a b:Fm X)
def Fm.flat:Fm X→List (Int×List X)
 | .nul p=>[p]
 | .un p a=>a.flat++[p]
 | .bi p a b=>a.flat++b.flat++[p]
def Fm.size:Fm X→Nat
 | .nul _=>1
 | .un _ a=>a.size+1
 | .bi _ a b=>a.size+b.size+1
def Fm.wf:Fm X→Prop
 | .nul p=>opn p.1=0∧(p.1=3→E p.2=true)∧(p.1≠3→p.2=[])
 | .un p a=>opn p.1=1∧p.2=[]∧a.wf
 | .bi p a b=>opn p.1=2∧p.2=[]∧a.wf∧b.wf
theorem Fm.flat_len (t:Fm X):t.flat.length=t.size:=by
 induction t with
 | nul=>rfl
 | un p a ih=>simp [Fm.flat,Fm.size,ih]
 | bi p a b iha ihb=>simp [Fm.flat,Fm.size,iha,ihb];omega
theorem ne3 {k n:Int} (h:opn k=n) (hn:n≠0):k≠3:=by
 rintro rfl
 exact hn (by rw [←h];rfl)
def rightF (f:List (Int×List X)):Bool:=(match rGo E f 0 with
 | some d=>decide (d=1)
 | none=>false) && decide (f.length≤60)
def Fm.kids:Fm X→Nat→List (List Int)
 | .nul _,_=>[[]]
 | .un _ a,b=>a.kids b++[[((b+a.size-1:Nat):Int)]]
 | .bi _ a c,b=>a.kids b++c.kids (b+a.size)++[[((b+a.size-1:Nat):Int),((b+a.size+c.size-1:Nat):Int)]]
theorem Fm.kids_len (t:Fm X):∀ b,(t.kids b).length=t.size:=by
 induction t with
 | nul=>intro b;rfl
 | un p a ih=>intro b;simp [Fm.kids,Fm.size,ih]
 | bi p a c iha ihc=>intro b;simp [Fm.kids,Fm.size,iha,ihc];omega
end
abbrev Prt:=Int×List Trm
def smallF (f:List Prt):Prop:=f.length<900000∧∀ p∈f,p.2.length<900000
theorem smallF.at {f:List Prt} (h:smallF f) {i:Nat} (hi:i<f.length):(f.getD i (Ty.dflt ty78)).2.length<900000:=by
 refine h.2 _ ?_
 rw [List.getD_eq_getElem?_getD,List.getElem?_eq_getElem hi]
 exact List.getElem_mem _
section
variable (E:List Trm→Bool) (f:List Prt) (hf:smallF f)
end
def opE (k:Int):Int:=if k<1∨16<k then -1 else if k≤3 then 0 else if k≤5 then 1 else 2
theorem qcl (k:Int):M50 k=some (opE k):=by
 show T50 Ops.std k some=_
 unfold T50 opE
 simp only [qap,qbt,qal,qaa]
 (repeat' split)<;>first | rfl | (exfalso;omega)
def mayT (t:Trm):Bool:=
 if t.1=1 then decide (0≤t.2.1) && decide (t.2.1≤999) && (t.2.2.1 == []) && (t.2.2.2 == [])
 else if t.1=2 then decide (t.2.1=0) && isWordP t.2.2.1 && (t.2.2.2 == [])
 else if t.1=3 then decide (t.2.1=0) && isWordP t.2.2.1 && isWordP t.2.2.2
 else decide (0<opE t.1) && decide (t.2.1=0) && (t.2.2.1 == []) && (t.2.2.2 == [])
theorem may_prog (a b:Int) (c d:List UInt8):M58 a b c d=some (mayT (a,b,c,d)):=by
 show T58 Ops.std M95 M50 a b c d some=_
 unfold T58 mayT
 simp only [qap,qbt,qal,qaa,isWord_prog,qcl,ob_s]
 by_cases h1:a=1
 ·simp only [h1,if_true]
  by_cases h2:0≤b<;>by_cases h3:b≤999<;>cases hc:(c == ([]:List UInt8))<;>simp [h2,h3,hc]
 ·simp only [h1,if_false]
  by_cases h2:a=2
  ·simp only [h2,if_true]
   by_cases h3:b=0<;>cases hc:isWordP c<;>simp [h3,hc]
  ·simp only [h2,if_false]
   by_cases h3:a=3
   ·simp only [h3,if_true]
    by_cases h4:b=0<;>cases hc:isWordP c<;>simp [h4,hc]
   ·simp only [h3,if_false]
    by_cases h4:0<opE a<;>by_cases h5:b=0<;>cases hc:(c == ([]:List UInt8))<;>simp [h4,h5,hc]
def eGo:List Trm→Int→Option Int
 | [],d=>some d
 | p::r,d=>if !mayT p || decide (d<opE p.1) then none else eGo r (d+1-opE p.1)
def fin30 (f:List Trm) (o:Option Int):Bool:=match o with
 | some d=>decide (d=1) && decide (f.length≤30)
 | none=>false
def rightE (e:List Trm):Bool:=fin30 e (eGo e 0)
theorem opE_le (k:Int):-1≤opE k∧opE k≤2:=by unfold opE;(repeat' split)<;>omega
theorem mayT_op {t:Trm} (h:mayT t=true):0≤opE t.1:=by
 unfold mayT at h
 unfold opE at *
 (repeat' split at h)<;>(repeat' split)<;>simp_all<;>omega
theorem qbv (f:List Trm) (hf:f.length<900000):∀ (t i n:Nat) (d:Int),i+t=f.length→t<n→0≤d→d≤i→
  R22 M50 M58 f n (.l0 d (f.length:Nat) i)=some (fin30 f (eGo (f.drop i) d))
 | t,i,0,d,hi,hn,h0,hd=>by omega
 | 0,i,n+1,d,hi,hn,h0,hd=>by
   show T22 Ops.std _ _ f _ some _=_
   unfold T22
   simp only [qal,qap,qbt,qaa]
   rw [if_neg (by omega),List.drop_eq_nil_of_le (by omega)]
   simp only [eGo,fin30]
   by_cases h1:d=1
   ·rw [if_pos h1];simp [h1];omega
   ·rw [if_neg h1];simp [h1]
 | t+1,i,n+1,d,hi,hn,h0,hd=>by
   have hlt:i<f.length:=by omega
   have ih:=fun d=>qbv f hf t (i+1) n d (by omega) (by omega)
   show T22 Ops.std _ _ f _ some _=_
   unfold T22
   rw [qb8 (Ty.dflt ty56) hlt]
   simp only [qal,qap,qbt,qam,qaa,qb3,qai,eGo]
   generalize f.getD i (Ty.dflt ty56)=p
   obtain ⟨hb1,hb2⟩:=opE_le p.1
   rw [if_pos (by omega),if_pos (by omega),qcl,ob_s,may_prog,ob_s]
   have hp:mayT (p.1,p.2.1,p.2.2.1,p.2.2.2)=mayT p:=rfl
   rw [hp]
   cases hm:mayT p with
   | false=>simp [fin30]
   | true=>
     have:=mayT_op hm
     simp only [Bool.not_true,cond_false,Bool.false_or]
     by_cases h2:d<opE p.1
     ·rw [if_pos h2];simp [h2,fin30]
     ·rw [if_neg h2]
      have hw:IntKind.wrap IntKind.i64 (d+IntKind.wrap IntKind.i64 (1-opE p.1))=d+1-opE p.1:=by
       rw [wrap64 (n:=1-opE p.1) (by omega) (by omega),wrap64 (by omega) (by omega)];omega
      rw [hw,show IntKind.wrap IntKind.i64 ((i:Int)+1)=((i+1:Nat):Int) from qaj (by omega),ih _ (by omega) (by omega)]
      simp [h2]
theorem rightE_prog (f:List Trm) (hf:f.length<900000):M22 f=some (rightE f):=by
 show T22 Ops.std M50 M58 f (R22 M50 M58 f 1000000) some none=_
 unfold T22
 exact qbv f hf f.length 0 1000000 0 (by omega) (by omega) (by omega) (by omega)
def smallE (f:List Trm):Prop:=f.length<900000∧∀ p∈f,p.2.2.1.length<900000∧p.2.2.2.length<900000
theorem smallE.at {f:List Trm} (h:smallE f) {i:Nat} (hi:i<f.length):(f.getD i (Ty.dflt ty56)).2.2.1.length<900000∧(f.getD i (Ty.dflt ty56)).2.2.2.length<900000:=by
 refine h.2 _ ?_
 rw [List.getD_eq_getElem?_getD,List.getElem?_eq_getElem hi]
 exact List.getElem_mem _
theorem toks_len {l:List Tok} (h:toksOK l):0<l.length:=by
 obtain ⟨q,x,rfl,_⟩:=h;simp
theorem toks_at {l:List Tok} (h:toksOK l) {i:Nat} (hi:i<l.length) (d:Tok):(i+1<l.length∨(l.getD i d).1=5)∧tokOK (l.getD i d)∧((l.getD i d).1=5→i+1=l.length):=by
 obtain ⟨q,x,rfl,hq⟩:=h
 simp only [List.length_append,List.length_cons,List.length_nil] at hi ⊢
 by_cases hlt:i<q.length
 ·have hg:(q++[(5,[],0,x)]).getD i d=q[i]:=by
   rw [List.getD_eq_getElem?_getD,List.getElem?_append_left hlt,List.getElem?_eq_getElem hlt];rfl
  rw [hg]
  have:=hq _ (List.getElem_mem hlt)
  exact ⟨.inl (by omega),this.2,fun h=>absurd h this.1⟩
 ·have hi':i=q.length:=by omega
  subst hi'
  rw [qa5]
  exact ⟨.inr rfl,⟨fun h=>(by cases h),fun h=>(by cases h)⟩,fun _=>rfl⟩
theorem qaz {l:List Tok} (h:toksOK l) {i:Nat} (hi:i<l.length) (d:Tok) (hk:(l.getD i d).1≠5):i+1<l.length:=by
 rcases (toks_at h hi d).1 with h1 | h1
 ·exact h1
 ·exact absurd h1 hk
def goodE (e:List Trm):Prop:=∀ (r:List Trm) (d:Int),0≤d→eGo (e++r) d=eGo r (d+1)
theorem goodE.nul {t:Trm} (h:mayT t=true) (ho:opE t.1=0):goodE [t]:=fun r d hd=>by
 simp only [List.cons_append,List.nil_append,eGo,h,ho]
 rw [if_neg (by simp;omega)]
 congr 1;omega
theorem goodE.un {e:List Trm} {t:Trm} (he:goodE e) (h:mayT t=true) (ho:opE t.1=1):goodE (e++[t]):=fun r d hd=>by
 rw [List.append_assoc,he _ d hd]
 simp only [List.cons_append,List.nil_append,eGo,h,ho]
 rw [if_neg (by simp;omega)]
 congr 1;omega
theorem goodE.bi {e e2:List Trm} {t:Trm} (he:goodE e) (he2:goodE e2) (h:mayT t=true) (ho:opE t.1=2):goodE (e++e2++[t]):=fun r d hd=>by
 rw [List.append_assoc,List.append_assoc,he _ d hd,he2 _ (d+1) (by omega)]
 simp only [List.cons_append,List.nil_append,eGo,h,ho]
 rw [if_neg (by simp;omega)]
 congr 1;omega
theorem goodE.right {e:List Trm} (h:goodE e) (hl:e.length≤30):rightE e=true:=by
 have:=h [] 0 (by omega)
 rw [List.append_nil] at this
 unfold rightE
 rw [this]
 simp [eGo,fin30,hl]
theorem may_op {k:Int} (h:4≤k) (h2:k≤16):mayT (k,0,[],[])=true:=by
 have:0<opE k:=by unfold opE;(repeat' split)<;>omega
 unfold mayT
 rw [if_neg (by show ¬ k=1;omega),if_neg (by show ¬ k=2;omega),if_neg (by show ¬ k=3;omega)]
 simp [this]
section
variable {l:List Tok} (hl:toksOK l)
end
section
variable {f:List Prt} {Run:Nat→Nat→List (List Int)→List Int→Option (List (List Int))} {E:List Trm→Bool}
end
section
variable (E:List Trm→Bool)
end
structure At (f:List Prt) (K:List (List Int)) (t:Fm Trm) (b:Nat):Prop where
 parts:∃ pre post,f=pre++t.flat++post∧pre.length=b
 kids:∃ pre post,K=pre++t.kids b++post∧pre.length=b
section
variable {f:List Prt} {K:List (List Int)} {b:Nat}
theorem At.len {t:Fm Trm} (h:At f K t b):b+t.size≤f.length∧b+t.size≤K.length:=by
 obtain ⟨⟨pre,post,h1,h2⟩,⟨kp,kq,h3,h4⟩⟩:=h
 constructor
 ·rw [h1];simp only [List.length_append,t.flat_len,h2];omega
 ·rw [h3];simp only [List.length_append,t.kids_len,h4];omega
theorem At.un {p:Prt} {a:Fm Trm} (h:At f K (.un p a) b):At f K a b:=by
 obtain ⟨⟨pre,post,h1,h2⟩,⟨kp,kq,h3,h4⟩⟩:=h
 exact ⟨⟨pre,[p]++post,by rw [h1];simp [Fm.flat],h2⟩,⟨kp,[[((b+a.size-1:Nat):Int)]]++kq,by rw [h3];simp [Fm.kids],h4⟩⟩
end
theorem At.all (t:Fm Trm):At t.flat (t.kids 0) t 0:=⟨⟨[],[],by simp,rfl⟩,⟨[],[],by simp,rfl⟩⟩
section
variable (f:List Prt) (K:List (List Int)) (i:Int) (no:Bool) (out:List Prt) (d n:Nat)
end
section
variable {E:List Trm→Bool}
end
section
variable {E:List Trm→Bool}
end
def shortP (p:Prt):Prop:=p.2.length≤30∧∀ t∈p.2,t.2.2.1.length≤8∧t.2.2.2.length≤8
def goodF (e:List Prt):Prop:=(∀ (r:List Prt) (d:Int),0≤d→rGo rightE (e++r) d=rGo rightE r (d+1))∧∀ p∈e,shortP p
theorem shortP.nil (k:Int):shortP (k,[]):=⟨by simp,by simp⟩
theorem badP_of {p:Prt} {d:Int} (h1:0≤opn p.1) (h2:opn p.1≤d) (h3:p.1=3→rightE p.2=true) (h4:p.1≠3→p.2=[]):badP rightE p d=false:=by
 unfold badP
 by_cases h:p.1=3
 ·rw [h] at h1 h2
  simp [h,h3 h];omega
 ·simp [h,h4 h];omega
theorem goodF.nul {p:Prt} (ho:opn p.1=0) (h3:p.1=3→rightE p.2=true) (h4:p.1≠3→p.2=[]) (hs:shortP p):goodF [p]:=by
 refine ⟨fun r d hd=>?_,by simpa using hs⟩
 simp only [List.cons_append,List.nil_append,rGo,badP_of (by omega) (by omega:opn p.1≤d) h3 h4,ho]
 simp
theorem goodF.un {e:List Prt} {k:Int} (he:goodF e) (ho:opn k=1):goodF (e++[(k,[])]):=by
 refine ⟨fun r d hd=>?_,fun p hp=>?_⟩
 ·rw [List.append_assoc,he.1 _ d hd]
  have hk:k≠3:=ne3 ho (by omega)
  have hb:badP rightE ((k,[]):Prt) (d+1)=false:=badP_of (p:=(k,[])) (by show 0≤opn k;omega) (by show opn k≤d+1;omega) (fun h=>absurd h hk) (fun _=>rfl)
  simp only [List.cons_append,List.nil_append,rGo,hb,ho]
  simp
 ·rcases List.mem_append.1 hp with h | h
  ·exact he.2 p h
  ·simp at h;subst h;exact shortP.nil k
theorem goodF.bi {e e2:List Prt} {k:Int} (he:goodF e) (he2:goodF e2) (ho:opn k=2):goodF (e++e2++[(k,[])]):=by
 refine ⟨fun r d hd=>?_,fun p hp=>?_⟩
 ·rw [List.append_assoc,List.append_assoc,he.1 _ d hd,he2.1 _ (d+1) (by omega)]
  have hk:k≠3:=ne3 ho (by omega)
  have hb:badP rightE ((k,[]):Prt) (d+1+1)=false:=badP_of (p:=(k,[])) (by show 0≤opn k;omega) (by show opn k≤d+1+1;omega) (fun h=>absurd h hk) (fun _=>rfl)
  simp only [List.cons_append,List.nil_append,rGo,hb,ho]
  simp;congr 1;omega
 ·rcases List.mem_append.1 hp with h | h
  ·rcases List.mem_append.1 h with h | h
   ·exact he.2 p h
   ·exact he2.2 p h
  ·simp at h;subst h;exact shortP.nil k
theorem goodF.right {e:List Prt} (h:goodF e) (hl:e.length≤60):rightF rightE e=true:=by
 have:=h.1 [] 0 (by omega)
 rw [List.append_nil] at this
 unfold rightF
 rw [this]
 simp [rGo,hl]
def shortE (f:List Trm):Prop:=f.length≤30∧∀ t∈f,t.2.2.1.length≤8∧t.2.2.2.length≤8
abbrev Eff:=List UInt8×List Trm
def okEf (x:Eff):Prop:=x.1.length≤8∧rightE x.2=true
abbrev Sd:=List UInt8×Int
def okS (L:Nat) (st:List Sd):Prop:=∀ x∈st,x.1.length≤L
theorem okS.mono {L L':Nat} {st:List Sd} (h:okS L st) (hl:L≤L'):okS L' st:=fun x hx=>Nat.le_trans (h x hx) hl
theorem okS.app {L:Nat} {st:List Sd} {x:Sd} (h:okS L st) (hx:x.1.length≤L):okS L (st++[x]):=fun y hy=>by
 rcases List.mem_append.1 hy with hy | hy
 ·exact h y hy
 ·simp only [List.mem_singleton] at hy;rw [hy];exact hx
theorem okS.take {L:Nat} {st:List Sd} (h:okS L st) (k:Nat):okS L (st.take k):=fun y hy=>h y (List.mem_of_mem_take hy)
theorem okS.get {L:Nat} {st:List Sd} (h:okS L st) (k:Nat) (hk:k<st.length) (d:Sd):(st.getD k d).1.length≤L:=by
 rw [List.getD_eq_getElem?_getD,List.getElem?_eq_getElem hk];exact h _ (List.getElem_mem hk)
abbrev Trn:=Int×List UInt8×List UInt8×List UInt8×List UInt8×List Trm×List Eff
def okTr (t:Trn):Prop:=t.2.1.length≤60000∧t.2.2.1.length≤60000∧t.2.2.2.1.length≤60000∧t.2.2.2.2.1.length≤60000∧shortE t.2.2.2.2.2.1∧t.2.2.2.2.2.2.length≤100000∧∀ x∈t.2.2.2.2.2.2,okEf x
abbrev Vrb:=List UInt8×Int×Int×Int
abbrev Pcs:=List UInt8×List (List UInt8)
section
variable (vs:List Vrb) (ps:List Pcs) (ts:List Trn)
def okLocs (ps:List Pcs):Prop:=∀ p∈ps,p.2.length≤100000
theorem okLocs.get {ps:List Pcs} (h:okLocs ps) (k:Nat) (hk:k<ps.length):(ps.getD k (Ty.dflt ty73)).2.length≤100000:=by
 rw [List.getD_eq_getElem?_getD,List.getElem?_eq_getElem hk];exact h _ (List.getElem_mem hk)
structure smallG:Prop where
 v:vs.length≤100000
 p:ps.length≤100000
 l:okLocs ps
variable {vs ps}
end
structure smallM (vs:List Vrb) (ps:List Pcs) (ts:List Trn):Prop where
 vl:vs.length≤5001
 v:∀ v∈vs,v.1.length≤60000
 pl:ps.length≤5001
 p:∀ p∈ps,p.1.length≤60000∧p.2.length≤60001∧okL 60000 p.2
 tl:ts.length≤5001
 t:∀ t∈ts,okTr t
theorem smallM.g {vs:List Vrb} {ps:List Pcs} {ts:List Trn} (h:smallM vs ps ts):smallG vs ps:=⟨by have:=h.vl;omega,by have:=h.pl;omega,fun p hp=>by have:=(h.p p hp).2.1;omega⟩
section
variable {vs:List Vrb} {ps:List Pcs} {ts:List Trn} (hM:smallM vs ps ts)
end
section
variable {vs:List Vrb} {ps:List Pcs} {ts:List Trn}
end
section
variable {vs:List Vrb} {ps:List Pcs} (ts:List Trn)
end
abbrev tkD (l:List Tok) (a:Nat):Tok:=l.getD a (Ty.dflt ty85)
def isS (l:List Tok) (a:Nat) (w:List UInt8):Bool:=decide ((tkD l a).1=4) && ((tkD l a).2.1 == w)
def sgW (w:List UInt8):Int×Nat:=
 if w=[42] then (6,5) else if w=[43] then (7,4) else if w=[45] then (8,4) else if w=[60] then (9,3) else if w=[60,61] then (10,3) else if w=[62] then (11,3) else if w=[62,61] then (12,3) else if w=[61,61] then (13,3) else if w=[33,61] then (14,3) else if w=[38,38] then (15,2) else if w=[124,124] then (16,1) else (0,0)
def sgE (l:List Tok) (a:Nat):Int×Nat:=if (tkD l a).1=4 then sgW (tkD l a).2.1 else (0,0)
theorem sgW_cases (w:List UInt8):sgW w=(0,0)∨(6≤(sgW w).1∧(sgW w).1≤16):=by
 unfold sgW
 (repeat' split)<;>decide
theorem sgE_op {l:List Tok} {a n:Nat} (h:(sgE l a).2=n) (hn:1≤n):6≤(sgE l a).1∧(sgE l a).1≤16∧(tkD l a).1=4:=by
 unfold sgE at h ⊢
 by_cases hk:(tkD l a).1=4
 ·rw [if_pos hk] at h ⊢
  rcases sgW_cases (tkD l a).2.1 with hc | hc
  ·rw [hc] at h;have h:0=n:=h;omega
  ·exact ⟨hc.1,hc.2,hk⟩
 ·rw [if_neg hk] at h;have h:0=n:=h;omega
theorem mayN {n:Int} (h:0≤n∧n≤999):mayT (1,n,[],[])=true:=by simp [mayT,h]
theorem mayV {w:List UInt8} (h:isWordP w=true):mayT (2,0,w,[])=true:=by simp [mayT,h]
theorem mayA {w v:List UInt8} (h:isWordP w=true) (h2:isWordP v=true):mayT (3,0,w,v)=true:=by simp [mayT,h,h2]
inductive PS where
 | lv (n a:Nat)
 | lp (n b:Nat) (e:List Trm)
 | un (a:Nat)
inductive PR where
 | ok (b:Nat) (e:List Trm)
 | bad (k:Nat)
def onOk (r:Option PR) (f:Nat→List Trm→Option PR):Option PR:=match r with
 | some (.ok b e)=>f b e
 | some (.bad k)=>some (.bad k)
 | none=>none
def go (l:List Tok):Nat→PS→Option PR
 | 0,_=>none
 | d+1,.lv n a=>if n=6 then go l d (.un a) else onOk (go l d (.lv (n+1) a)) fun b e=>go l d (.lp n b e)
 | d+1,.lp n b e=>if (sgE l b).2=n then onOk (go l d (.lv (n+1) (b+1))) fun c e2=>if n=3 then some (.ok c (e++e2++[((sgE l b).1,0,[],[])])) else go l d (.lp n c (e++e2++[((sgE l b).1,0,[],[])])) else some (.ok b e)
 | d+1,.un a=>
   if isS l a [33] then onOk (go l d (.un (a+1))) fun b e=>some (.ok b (e++[(4,0,[],[])]))
   else if isS l a [45] then onOk (go l d (.un (a+1))) fun b e=>some (.ok b (e++[(5,0,[],[])]))
   else if (tkD l a).1=1 then some (.ok (a+1) [(1,(tkD l a).2.2.1,[],[])])
   else if (tkD l a).1=2 then if isS l (a+1) [64] then if (tkD l (a+2)).1=2 then some (.ok (a+3) [(3,0,(tkD l a).2.1,(tkD l (a+2)).2.1)]) else some (.bad (a+2)) else some (.ok (a+1) [(2,0,(tkD l a).2.1,[])])
   else if isS l a [40] then onOk (go l d (.lv 1 (a+1))) fun b e=>if isS l b [41] then some (.ok (b+1) e) else some (.bad b)
   else some (.bad a)
def PE (l:List Tok) (s:PS) (r:PR):Prop:=∃ d0,∀ d,d0≤d→go l d s=some r
theorem PE.det {l:List Tok} {s:PS} {r r':PR} (h:PE l s r) (h':PE l s r'):r=r':=by
 obtain ⟨d,h⟩:=h
 obtain ⟨d',h'⟩:=h'
 have h1:=h (d+d') (by omega)
 have h2:=h' (d+d') (by omega)
 rw [h1] at h2
 exact Option.some.inj h2
theorem PE.run {l:List Tok} {s:PS} {r:PR} (h:PE l s r):∃ d,go l d s=some r:=by
 obtain ⟨d,h⟩:=h
 exact ⟨d,h d (Nat.le_refl _)⟩
section
variable {l:List Tok}
theorem pe1 {s:PS} {r:PR} (h:∀ d,go l (d+1) s=some r):PE l s r:=⟨1,fun d hd=>by
 obtain ⟨g,rfl⟩:∃ g,d=g+1:=⟨d-1,by omega⟩
 exact h g⟩
theorem pe2 {s s1:PS} {r r1:PR} (h1:PE l s1 r1) (h:∀ d,go l d s1=some r1→go l (d+1) s=some r):PE l s r:=by
 obtain ⟨d0,h1⟩:=h1
 exact ⟨d0+1,fun d hd=>by
  obtain ⟨g,rfl⟩:∃ g,d=g+1:=⟨d-1,by omega⟩
  exact h g (h1 g (by omega))⟩
theorem pe3 {s s1 s2:PS} {r r1 r2:PR} (h1:PE l s1 r1) (h2:PE l s2 r2) (h:∀ d,go l d s1=some r1→go l d s2=some r2→go l (d+1) s=some r):PE l s r:=by
 obtain ⟨d1,h1⟩:=h1
 obtain ⟨d2,h2⟩:=h2
 exact ⟨d1+d2+1,fun d hd=>by
  obtain ⟨g,rfl⟩:∃ g,d=g+1:=⟨d-1,by omega⟩
  exact h g (h1 g (by omega)) (h2 g (by omega))⟩
theorem pe_six {a:Nat} {r:PR} (h:PE l (.un a) r):PE l (.lv 6 a) r:=pe2 h fun d h=>by rw [go,if_pos rfl,h]
theorem pe_bad {n a k:Nat} (hn:n≠6) (h:PE l (.lv (n+1) a) (.bad k)):PE l (.lv n a) (.bad k):=pe2 h fun d h=>by rw [go,if_neg hn,h];rfl
theorem pe_lv {n a b:Nat} {e:List Trm} {r:PR} (hn:n≠6) (h:PE l (.lv (n+1) a) (.ok b e)) (h2:PE l (.lp n b e) r):PE l (.lv n a) r:=pe3 h h2 fun d h h2=>by rw [go,if_neg hn,h];exact h2
theorem pe_stop {n b:Nat} {e:List Trm} (h:(sgE l b).2≠n):PE l (.lp n b e) (.ok b e):=pe1 fun d=>by rw [go,if_neg h]
theorem pe_lpbad {n b k:Nat} {e:List Trm} (hs:(sgE l b).2=n) (h:PE l (.lv (n+1) (b+1)) (.bad k)):PE l (.lp n b e) (.bad k):=pe2 h fun d h=>by rw [go,if_pos hs,h];rfl
theorem pe_three {b c:Nat} {e e2:List Trm} (hs:(sgE l b).2=3) (h:PE l (.lv 4 (b+1)) (.ok c e2)):PE l (.lp 3 b e) (.ok c (e++e2++[((sgE l b).1,0,[],[])])):=pe2 h fun d h=>by rw [go,if_pos hs,h];rfl
theorem pe_more {n b c:Nat} {e e2:List Trm} {r:PR} (hn:n≠3) (hs:(sgE l b).2=n) (h:PE l (.lv (n+1) (b+1)) (.ok c e2)) (h2:PE l (.lp n c (e++e2++[((sgE l b).1,0,[],[])])) r):PE l (.lp n b e) r:=pe3 h h2 fun d h h2=>by
 rw [go,if_pos hs,h]
 show (if n=3 then _ else _)=_
 rw [if_neg hn,h2]
theorem pe_not {a b:Nat} {e:List Trm} (hs:isS l a [33]=true) (h:PE l (.un (a+1)) (.ok b e)):PE l (.un a) (.ok b (e++[(4,0,[],[])])):=pe2 h fun d h=>by rw [go,if_pos hs,h];rfl
theorem pe_notb {a k:Nat} (hs:isS l a [33]=true) (h:PE l (.un (a+1)) (.bad k)):PE l (.un a) (.bad k):=pe2 h fun d h=>by rw [go,if_pos hs,h];rfl
theorem qdi {a:Nat} {w v:List UInt8} (h:isS l a w=true) (hv:w≠v):¬ isS l a v=true:=fun h2=>by
 unfold isS at h h2
 simp only [Bool.and_eq_true,decide_eq_true_eq,beq_iff_eq] at h h2
 exact hv (h.2.symm.trans h2.2)
theorem qcm {a:Nat} {w:List UInt8} (h:(tkD l a).1≠4):¬ isS l a w=true:=fun h2=>by
 unfold isS at h2
 simp only [Bool.and_eq_true,decide_eq_true_eq] at h2
 exact h h2.1
theorem qc6 {a:Nat} {w:List UInt8} (h:isS l a w=true):(tkD l a).1=4:=by
 unfold isS at h
 simp only [Bool.and_eq_true,decide_eq_true_eq] at h
 exact h.1
theorem pe_neg {a b:Nat} {e:List Trm} (hs:isS l a [45]=true) (h:PE l (.un (a+1)) (.ok b e)):PE l (.un a) (.ok b (e++[(5,0,[],[])])):=pe2 h fun d h=>by rw [go,if_neg (qdi hs (by decide)),if_pos hs,h];rfl
theorem pe_negb {a k:Nat} (hs:isS l a [45]=true) (h:PE l (.un (a+1)) (.bad k)):PE l (.un a) (.bad k):=pe2 h fun d h=>by rw [go,if_neg (qdi hs (by decide)),if_pos hs,h];rfl
theorem pe_num {a:Nat} (hk:(tkD l a).1=1):PE l (.un a) (.ok (a+1) [(1,(tkD l a).2.2.1,[],[])]):=pe1 fun d=>by
 rw [go,if_neg (qcm (by rw [hk];decide)),if_neg (qcm (by rw [hk];decide)),if_pos hk]
theorem pe_word {a:Nat} (hk:(tkD l a).1=2):PE l (.un a) (if isS l (a+1) [64] then if (tkD l (a+2)).1=2 then .ok (a+3) [(3,0,(tkD l a).2.1,(tkD l (a+2)).2.1)] else .bad (a+2) else .ok (a+1) [(2,0,(tkD l a).2.1,[])]):=pe1 fun d=>by
 rw [go,if_neg (qcm (by rw [hk];decide)),if_neg (qcm (by rw [hk];decide)),if_neg (by rw [hk];decide),if_pos hk]
 (repeat' split)<;>rfl
theorem pe_brab {a k:Nat} (hs:isS l a [40]=true) (h:PE l (.lv 1 (a+1)) (.bad k)):PE l (.un a) (.bad k):=pe2 h fun d h=>by
 rw [go,if_neg (qdi hs (by decide)),if_neg (qdi hs (by decide)),if_neg (by rw [qc6 hs];decide),if_neg (by rw [qc6 hs];decide),if_pos hs,h];rfl
theorem pe_bra {a b:Nat} {e:List Trm} (hs:isS l a [40]=true) (h:PE l (.lv 1 (a+1)) (.ok b e)):PE l (.un a) (if isS l b [41] then .ok (b+1) e else .bad b):=pe2 h fun d h=>by
 rw [go,if_neg (qdi hs (by decide)),if_neg (qdi hs (by decide)),if_neg (by rw [qc6 hs];decide),if_neg (by rw [qc6 hs];decide),if_pos hs,h]
 show (if _ then _ else _)=_
 split<;>rfl
theorem pe_none {a:Nat} (h1:¬ isS l a [33]=true) (h2:¬ isS l a [45]=true) (h3:(tkD l a).1≠1) (h4:(tkD l a).1≠2) (h5:¬ isS l a [40]=true):PE l (.un a) (.bad a):=pe1 fun d=>by
 rw [go,if_neg h1,if_neg h2,if_neg h3,if_neg h4,if_neg h5]
def PS.at:PS→Nat
 | .lv _ a=>a
 | .lp _ b _=>b
 | .un a=>a
def PS.lvl:PS→Nat
 | .lv n _=>n
 | .lp n _ _=>n
 | .un _=>6
def Bd (l:List Tok):PS→PR→Prop
 | .lp _ a e0,.ok b e=>a≤b∧b<l.length∧e.length≤e0.length+(b-a)∧(goodE e0→goodE e)
 | s,.ok b e=>s.at<b∧b<l.length∧e.length≤b-s.at∧goodE e
 | s,.bad k=>s.at≤k∧k<l.length
theorem qcn {r:Option PR} {f:Nat→List Trm→Option PR} {q:PR} (h:onOk r f=some q):(∃ b e,r=some (.ok b e)∧f b e=some q)∨∃ k,r=some (.bad k)∧q=.bad k:=by
 cases r with
 | none=>cases h
 | some x=>
   cases x with
   | ok b e=>exact .inl ⟨b,e,rfl,h⟩
   | bad k=>exact .inr ⟨k,rfl,(Option.some.inj h).symm⟩
theorem qdk (hl:toksOK l):∀ (d:Nat) (s:PS) (r:PR),1≤s.lvl→s.at<l.length→go l d s=some r→Bd l s r
 | 0,s,r,_,_,h=>by cases h
 | d+1,.lv n a,r,h1,ha,h=>by
   have ha:a<l.length:=ha
   have h1:1≤n:=h1
   rw [go] at h
   split at h
   ·have:=qdk hl d _ r (by show 1≤6;omega) (by exact ha) h
    cases r<;>exact this
   ·rcases qcn h with ⟨b,e,g1,g2⟩ | ⟨k,g1,rfl⟩
    ·obtain ⟨i1,i2,i3,i4⟩:=qdk hl d (.lv (n+1) a) _ (by show 1≤n+1;omega) (by exact ha) g1
     have i1:a<b:=i1
     have i3:e.length≤b-a:=i3
     have:=qdk hl d (.lp n b e) r h1 i2 g2
     cases r with
     | ok c e2=>
       obtain ⟨j1,j2,j3,j4⟩:=this
       exact ⟨by show a<c;omega,j2,by show e2.length≤c-a;omega,j4 i4⟩
     | bad k=>
       obtain ⟨j1,j2⟩:=this
       have j1:b≤k:=j1
       exact ⟨by show a≤k;omega,j2⟩
    ·exact qdk hl d (.lv (n+1) a) _ (by show 1≤n+1;omega) (by exact ha) g1
 | d+1,.lp n b e,r,h1,hb,h=>by
   have hb:b<l.length:=hb
   have h1:1≤n:=h1
   rw [go] at h
   split at h
   ·rename_i hs
    obtain ⟨o1,o2,o3⟩:=sgE_op hs h1
    have hb1:=qaz hl hb (Ty.dflt ty85) (by rw [o3];decide)
    have hgood:∀ e2,goodE e2→goodE e→goodE (e++e2++[((sgE l b).1,0,[],[])]):=fun e2 h2 h=>h.bi h2 (may_op (by omega) o2) (by
     show opE (sgE l b).1=2
     unfold opE;(repeat' split)<;>omega)
    rcases qcn h with ⟨c,e2,g1,g2⟩ | ⟨k,g1,rfl⟩
    ·obtain ⟨i1,i2,i3,i4⟩:=qdk hl d (.lv (n+1) (b+1)) _ (by show 1≤n+1;omega) hb1 g1
     have i1:b+1<c:=i1
     have i3:e2.length≤c-(b+1):=i3
     split at g2
     ·cases g2
      exact ⟨by omega,i2,by simp;omega,hgood e2 i4⟩
     ·have:=qdk hl d (.lp n c _) r h1 i2 g2
      cases r with
      | ok c' e'=>
        obtain ⟨j1,j2,j3,j4⟩:=this
        simp only [List.length_append,List.length_cons,List.length_nil] at j3
        exact ⟨by omega,j2,by omega,fun h=>j4 (hgood e2 i4 h)⟩
      | bad k=>
        obtain ⟨j1,j2⟩:=this
        have j1:c≤k:=j1
        exact ⟨by show b≤k;omega,j2⟩
    ·obtain ⟨j1,j2⟩:=qdk hl d (.lv (n+1) (b+1)) _ (by show 1≤n+1;omega) hb1 g1
     have j1:b+1≤k:=j1
     exact ⟨by show b≤k;omega,j2⟩
   ·cases h
    exact ⟨Nat.le_refl _,hb,by omega,fun h=>h⟩
 | d+1,.un a,r,h1,ha,h=>by
   have ha:a<l.length:=ha
   obtain ⟨ht1,⟨ht2,ht3⟩,ht4⟩:=toks_at hl ha (Ty.dflt ty85)
   have hnx:=qaz hl ha (Ty.dflt ty85)
   have pre:∀ (op:Int),(op=4∨op=5)→(tkD l a).1=4→onOk (go l d (.un (a+1))) (fun b e=>some (.ok b (e++[(op,0,[],[])])))=some r→Bd l (.un a) r:=fun op hop h4 h=>by
    have hb1:=hnx (by rw [h4];decide)
    rcases qcn h with ⟨c,e2,g1,g2⟩ | ⟨k,g1,rfl⟩
    ·obtain ⟨i1,i2,i3,i4⟩:=qdk hl d (.un (a+1)) _ (by show 1≤6;omega) hb1 g1
     have i1:a+1<c:=i1
     have i3:e2.length≤c-(a+1):=i3
     cases g2
     refine ⟨by show a<c;omega,i2,by show _≤c-a;simp;omega,i4.un (may_op (by omega) (by omega)) ?_⟩
     show opE op=1
     unfold opE;(repeat' split)<;>omega
    ·obtain ⟨j1,j2⟩:=qdk hl d (.un (a+1)) _ (by show 1≤6;omega) hb1 g1
     have j1:a+1≤k:=j1
     exact ⟨by show a≤k;omega,j2⟩
   rw [go] at h
   split at h
   ·rename_i hs;exact pre 4 (.inl rfl) (qc6 hs) h
   ·split at h
    ·rename_i hs;exact pre 5 (.inr rfl) (qc6 hs) h
    ·split at h
     ·rename_i hk
      have hb1:=hnx (by rw [hk];decide)
      have hn:=ht2 hk
      cases h
      refine ⟨by show a<a+1;omega,hb1,by show 1≤a+1-a;omega,goodE.nul (mayN hn) rfl⟩
     ·split at h
      ·rename_i hk
       have hb1:=hnx (by rw [hk];decide)
       have hn:=ht3 hk
       split at h
       ·rename_i hs
        have hb2:=qaz hl hb1 (Ty.dflt ty85) (by rw [qc6 hs];decide)
        split at h
        ·rename_i hk2
         have hb3:=qaz hl hb2 (Ty.dflt ty85) (by rw [hk2];decide)
         have hn2:=(toks_at hl hb2 (Ty.dflt ty85)).2.1.2 hk2
         cases h
         refine ⟨by show a<a+3;omega,hb3,by show 1≤a+3-a;omega,goodE.nul (mayA hn hn2) rfl⟩
        ·cases h
         exact ⟨by show a≤a+2;omega,hb2⟩
       ·cases h
        refine ⟨by show a<a+1;omega,hb1,by show 1≤a+1-a;omega,goodE.nul (mayV hn) rfl⟩
      ·split at h
       ·rename_i hs
        have hb1:=hnx (by rw [qc6 hs];decide)
        rcases qcn h with ⟨c,e2,g1,g2⟩ | ⟨k,g1,rfl⟩
        ·obtain ⟨i1,i2,i3,i4⟩:=qdk hl d (.lv 1 (a+1)) _ (Nat.le_refl 1) hb1 g1
         have i1:a+1<c:=i1
         have i3:e2.length≤c-(a+1):=i3
         split at g2
         ·rename_i hs2
          have hb2:=qaz hl i2 (Ty.dflt ty85) (by rw [qc6 hs2];decide)
          cases g2
          exact ⟨by show a<c+1;omega,hb2,by show _≤c+1-a;omega,i4⟩
         ·cases g2
          exact ⟨by show a≤c;omega,i2⟩
        ·obtain ⟨j1,j2⟩:=qdk hl d (.lv 1 (a+1)) _ (Nat.le_refl 1) hb1 g1
         have j1:a+1≤k:=j1
         exact ⟨by show a≤k;omega,j2⟩
       ·cases h
        exact ⟨Nat.le_refl _,ha⟩
theorem PE.bd {s:PS} {r:PR} (h:PE l s r) (hl:toksOK l) (h1:1≤s.lvl) (ha:s.at<l.length):Bd l s r:=by
 obtain ⟨d,h⟩:=h.run
 exact qdk hl d s r h1 ha h
end
abbrev TokS:=Int×List UInt8×Int
def strip (t:Tok):TokS:=(t.1,t.2.1,t.2.2.1)
def LexTo (s r:List UInt8) (ts:List TokS):Prop:=
 ∀ (f a:Nat) (out:List Tok),(s++r).length<f→∃ (f':Nat) (tks:List Tok),tks.map strip=ts∧r.length<f'∧lexGo f (s++r) a out=lexGo f' r (a+s.length) (out++tks)
theorem LexTo.nil (r:List UInt8):LexTo [] r []:=fun f a out h=>⟨f,[],rfl,h,by simp⟩
theorem LexTo.app {s1 s2 r:List UInt8} {t1 t2:List TokS} (h1:LexTo s1 (s2++r) t1) (h2:LexTo s2 r t2):LexTo (s1++s2) r (t1++t2):=fun f a out h=>by
 rw [List.append_assoc] at h
 obtain ⟨f1,k1,e1,g1,q1⟩:=h1 f a out h
 obtain ⟨f2,k2,e2,g2,q2⟩:=h2 f1 (a+s1.length) (out++k1) g1
 refine ⟨f2,k1++k2,by rw [List.map_append,e1,e2],g2,?_⟩
 rw [List.append_assoc,q1,q2,List.length_append,List.append_assoc,Nat.add_assoc]
theorem LexTo.blank {b:UInt8} (hb:blankP b=true) (r:List UInt8):LexTo [b] r []:=fun f a out h=>by
 obtain ⟨g,rfl⟩:∃ g,f=g+1:=⟨f-1,by omega⟩
 refine ⟨g,[],rfl,by simp at h;omega,?_⟩
 simp only [List.cons_append,List.nil_append,lexGo,hb,if_true,List.length_cons,List.length_nil,List.append_nil]
theorem LexTo.tok {b:UInt8} {s r:List UInt8} {k n:Int} (ht:tokS (b::(s++r))=some (k,b::s,n)) (hb:blankP b=false):LexTo (b::s) r [(k,b::s,n)]:=fun f a out h=>by
 obtain ⟨g,rfl⟩:∃ g,f=g+1:=⟨f-1,by omega⟩
 refine ⟨g,[(k,b::s,n,(a:Int))],rfl,by simp at h;omega,?_⟩
 have hd:List.drop (b::s).length (b::(s++r))=r:=by
  rw [←List.cons_append,List.drop_left]
 simp only [List.cons_append,lexGo,hb,ht,Bool.false_eq_true,if_false,hd]
theorem qaw {b:UInt8} {r w:List UInt8} (h1:digitP' b=false) (h2:lowerP b=false) (h3:letterP b=false) (hs:signS (b::r)=w) (hw:w≠[]):tokS (b::r)=some (4,w,0):=by
 simp only [tokS,h1,h2,h3,hs,hw,Bool.false_eq_true,if_false]
theorem signS_two {p:List UInt8} {r:List UInt8} (h:p=[60,61]∨p=[62,61]∨p=[61,61]∨p=[33,61]∨p=[38,38]∨p=[124,124]∨p=[45,62]):signS (p++r)=p:=by
 rcases h with h | h | h | h | h | h | h<;>subst h<;>simp [signS,twos]
theorem qbw {p:List UInt8} (r:List UInt8) (h:p=[60,61]∨p=[62,61]∨p=[61,61]∨p=[33,61]∨p=[38,38]∨p=[124,124]∨p=[45,62]):LexTo p r [(4,p,0)]:=by
 have hs:=signS_two (r:=r) h
 rcases h with h | h | h | h | h | h | h<;>subst h<;>exact LexTo.tok (qaw rfl rfl rfl hs (by simp)) rfl
theorem qbj {c:UInt8} {r:List UInt8} (h:c=40∨c=41∨c=91∨c=93∨c=64):signS (c::r)=[c]:=by
 have h2:twos.find? (fun p=>decide (1<(c::r).length) && ((c::r).take 2 == p))=none:=by
  rw [List.find?_eq_none]
  intro p hp
  simp only [twos,List.mem_cons,List.not_mem_nil,or_false] at hp
  rcases h with h | h | h | h | h<;>subst h<;>rcases hp with hp | hp | hp | hp | hp | hp | hp<;>subst hp<;>simp
 unfold signS
 rw [h2]
 rcases h with h | h | h | h | h<;>subst h<;>simp [ones]
theorem qdj {c:UInt8} (r:List UInt8) (h:c=40∨c=41∨c=91∨c=93∨c=64):LexTo [c] r [(4,[c],0)]:=by
 have hs:=qbj (r:=r) h
 rcases h with h | h | h | h | h<;>subst h<;>exact LexTo.tok (s:=[]) (qaw rfl rfl rfl hs (by simp)) rfl
theorem signS_oneq {c d:UInt8} {r:List UInt8} (h:c=33∨c=60∨c=62) (hd:d≠61):signS (c::d::r)=[c]:=by
 have h2:twos.find? (fun p=>decide (1<(c::d::r).length) && ((c::d::r).take 2 == p))=none:=by
  rw [List.find?_eq_none]
  intro p hp
  simp only [twos,List.mem_cons,List.not_mem_nil,or_false] at hp
  rcases h with h | h | h<;>subst h<;>rcases hp with hp | hp | hp | hp | hp | hp | hp<;>subst hp<;>simp [hd]
 unfold signS
 rw [h2]
 rcases h with h | h | h<;>subst h<;>simp [ones]
theorem qc7 {c d:UInt8} (r:List UInt8) (h:c=33∨c=60∨c=62) (hd:d≠61):LexTo [c] (d::r) [(4,[c],0)]:=by
 have hs:=signS_oneq (r:=r) h hd
 rcases h with h | h | h<;>subst h<;>exact LexTo.tok (s:=[]) (qaw rfl rfl rfl hs (by simp)) rfl
theorem qb4 {c:UInt8} (r:List UInt8) (h:c=88∨c=70∨c=71∨c=85∨c=82):LexTo [c] r [(3,[c],0)]:=by
 rcases h with h | h | h | h | h<;>subst h<;>exact LexTo.tok (s:=[]) rfl rfl
def noWord (r:List UInt8):Prop:=∀ (b:UInt8) (q:List UInt8),r=b::q→wordP b=false
theorem noWord.nil:noWord []:=fun b q h=>by cases h
theorem noWord.cons {b:UInt8} {q:List UInt8} (h:wordP b=false):noWord (b::q):=fun c p e=>by cases e;exact h
theorem tw_app {p:UInt8→Bool}:∀ (w r:List UInt8),w.all p=true→(∀ b q,r=b::q→p b=false)→(w++r).takeWhile p=w
 | [],[],_,_=>rfl
 | [],b::q,_,h=>by rw [List.nil_append,List.takeWhile_cons,h b q rfl];rfl
 | a::w,r,ha,h=>by
   simp only [List.all_cons,Bool.and_eq_true] at ha
   rw [List.cons_append,List.takeWhile_cons,ha.1,if_pos rfl,tw_app w r ha.2 h]
theorem lx_word {b:UInt8} {w:List UInt8} (r:List UInt8) (hb:lowerP b=true) (hn:digitP' b=false) (hk:blankP b=false) (hw:w.all wordP=true) (hl:w.length<8) (hr:noWord r):LexTo (b::w) r [(2,b::w,0)]:=by
 refine LexTo.tok ?_ hk
 have ht:(b::(w++r)).takeWhile wordP=b::w:=by
  rw [←List.cons_append]
  exact tw_app (b::w) r (by rw [List.all_cons,hw];simp [wordP,hb]) hr
 simp only [tokS,hn,hb,ht,Bool.false_eq_true,if_false,if_true,List.length_cons]
 rw [if_pos (by omega)]
theorem lx_num {b:UInt8} (r:List UInt8) (hb:digitP' b=true) (hk:blankP b=false) (hr:noWord r):LexTo [b] r [(1,[b],valW [b])]:=by
 refine LexTo.tok (s:=[]) ?_ hk
 have ht:(b::([]++r)).takeWhile digitP'=[b]:=by
  have:=tw_app (p:=digitP') [b] r (by simp [hb]) (fun c q e=>by
   have:=hr c q e
   simp only [wordP,Bool.or_eq_false_iff] at this
   exact this.2)
  simpa using this
 simp only [tokS,hb,ht,if_true]
 rfl
inductive Sen where
 | con (b:Bool)
 | atm (i:Nat)
 | una (k:Int) (s:Sen)
 | bra (s:Sen)
 | bin (k:Int) (a b:Sen)
def unaW (k:Int):List UInt8:=if k=4 then [33] else if k=8 then [88,32] else if k=11 then [70,32] else [71,32]
def unaT (k:Int):TokS:=if k=4 then (4,[33],0) else if k=8 then (3,[88],0) else if k=11 then (3,[70],0) else (3,[71],0)
def binW (k:Int):List UInt8:=if k=5 then [32,38,38,32] else if k=6 then [32,124,124,32] else if k=7 then [32,45,62,32] else if k=9 then [32,85,32] else [32,82,32]
def binT (k:Int):TokS:=if k=5 then (4,[38,38],0) else if k=6 then (4,[124,124],0) else if k=7 then (4,[45,62],0) else if k=9 then (3,[85],0) else (3,[82],0)
def conW (b:Bool):List UInt8:=if b then [116,114,117,101] else [102,97,108,115,101]
def atmsW:List (List UInt8):=[[91,120,61,61,49,93],[91,112,64,97,93],[91,121,60,49,93],[91,113,64,98,38,38,120,62,48,93],[91,120,61,61,121,93],[91,112,64,98,93]]
def atmsT:List (List TokS):=[[(2,[120],0),(4,[61,61],0),(1,[49],1),(4,[93],0)],[(2,[112],0),(4,[64],0),(2,[97],0),(4,[93],0)],[(2,[121],0),(4,[60],0),(1,[49],1),(4,[93],0)],
 [(2,[113],0),(4,[64],0),(2,[98],0),(4,[38,38],0),(2,[120],0),(4,[62],0),(1,[48],0),(4,[93],0)],[(2,[120],0),(4,[61,61],0),(2,[121],0),(4,[93],0)],[(2,[112],0),(4,[64],0),(2,[98],0),(4,[93],0)]]
def Sen.text:Sen→List UInt8
 | .con b=>conW b
 | .atm i=>atmsW.getD i []
 | .una k s=>unaW k++s.text
 | .bra s=>[40]++(s.text++[41])
 | .bin k a b=>a.text++(binW k++b.text)
def Sen.toks:Sen→List TokS
 | .con b=>[(2,conW b,0)]
 | .atm i=>(4,[91],0)::atmsT.getD i []
 | .una k s=>unaT k::s.toks
 | .bra s=>(4,[40],0)::(s.toks++[(4,[41],0)])
 | .bin k a b=>a.toks++(binT k::b.toks)
def lvK (k:Int):Nat:=if k=7 then 1 else if k=6 then 2 else if k=5 then 3 else 4
def Sen.lv:Sen→Nat
 | .bin k _ _=>lvK k
 | _=>5
def unaK (k:Int):Prop:=k=4∨k=8∨k=11∨k=12
def binK (k:Int):Prop:=k=5∨k=6∨k=7∨k=9∨k=10
def Sen.ok:Sen→Prop
 | .con _=>True
 | .atm i=>i<6
 | .una k s=>unaK k∧s.lv=5∧s.ok
 | .bra s=>s.ok
 | .bin k a b=>binK k∧lvK k<a.lv∧lvK k≤b.lv∧(lvK k=b.lv→lvK k=1∨lvK k=4)∧a.ok∧b.ok
theorem Sen.head:∀ s:Sen,s.ok→∃ (d:UInt8) (q:List UInt8),s.text=d::q∧d≠61
 | .con b,_=>by cases b<;>exact ⟨_,_,rfl,by decide⟩
 | .atm i,h=>by
   have h:i<6:=h
   match i,h with
   | 0,_ | 1,_ | 2,_ | 3,_ | 4,_ | 5,_=>exact ⟨_,_,rfl,by decide⟩
 | .una k s,h=>by
   obtain ⟨h1,_,_⟩:=h
   rcases h1 with rfl | rfl | rfl | rfl<;>exact ⟨_,_,rfl,by decide⟩
 | .bra s,_=>⟨_,_,rfl,by decide⟩
 | .bin k a b,h=>by
   obtain ⟨d,q,e,hd⟩:=a.head h.2.2.2.2.1
   exact ⟨d,q++(binW k++b.text),by simp only [Sen.text,e,List.cons_append],hd⟩
theorem lx_una {k:Int} (hk:unaK k) {s r:List UInt8} (hs:∃ (d:UInt8) (q:List UInt8),s=d::q∧d≠61):LexTo (unaW k) (s++r) [unaT k]:=by
 obtain ⟨d,q,rfl,hd⟩:=hs
 rcases hk with rfl | rfl | rfl | rfl
 ·exact qc7 (q++r) (.inl rfl) hd
 ·exact (qb4 _ (.inl rfl)).app (LexTo.blank (b:=32) rfl _)
 ·exact (qb4 _ (.inr (.inl rfl))).app (LexTo.blank (b:=32) rfl _)
 ·exact (qb4 _ (.inr (.inr (.inl rfl)))).app (LexTo.blank (b:=32) rfl _)
theorem lx_bin {k:Int} (hk:binK k) (r:List UInt8):LexTo (binW k) r [binT k]:=by
 have bl:=fun r=>LexTo.blank (b:=32) rfl r
 rcases hk with rfl | rfl | rfl | rfl | rfl
 ·exact (bl _).app ((qbw (p:=[38,38]) _ (by simp)).app (bl _))
 ·exact (bl _).app ((qbw (p:=[124,124]) _ (by simp)).app (bl _))
 ·exact (bl _).app ((qbw (p:=[45,62]) _ (by simp)).app (bl _))
 ·exact (bl _).app ((qb4 (c:=85) _ (by simp)).app (bl _))
 ·exact (bl _).app ((qb4 (c:=82) _ (by simp)).app (bl _))
theorem noWord.bin {k:Int} (hk:binK k) (r:List UInt8):noWord (binW k++r):=by
 rcases hk with rfl | rfl | rfl | rfl | rfl<;>exact noWord.cons rfl
theorem lx_con (b:Bool) {r:List UInt8} (hr:noWord r):LexTo (conW b) r [(2,conW b,0)]:=by
 cases b
 ·exact lx_word r rfl rfl rfl rfl (by decide) hr
 ·exact lx_word r rfl rfl rfl rfl (by decide) hr
theorem lx_w (c:UInt8) (r:List UInt8) (h:c=120∨c=121∨c=112∨c=113∨c=97∨c=98) (hr:noWord r):LexTo [c] r [(2,[c],0)]:=by
 rcases h with rfl | rfl | rfl | rfl | rfl | rfl<;>exact lx_word r rfl rfl rfl rfl (by decide) hr
theorem lx_atm {i:Nat} (hi:i<6) (r:List UInt8):LexTo (atmsW.getD i []) r ((4,[91],0)::atmsT.getD i []):=by
 have op:=fun r=>qdj (c:=91) r (by simp)
 have cl:=qdj (c:=93) r (by simp)
 have at_:=fun r=>qdj (c:=64) r (by simp)
 match i,hi with
 | 0,_=>exact (op _).app ((lx_w 120 _ (by simp) (noWord.cons rfl)).app ((qbw (p:=[61,61]) _ (by simp)).app ((lx_num (b:=49) _ rfl rfl (noWord.cons rfl)).app cl)))
 | 1,_=>exact (op _).app ((lx_w 112 _ (by simp) (noWord.cons rfl)).app ((at_ _).app ((lx_w 97 _ (by simp) (noWord.cons rfl)).app cl)))
 | 2,_=>exact (op _).app ((lx_w 121 _ (by simp) (noWord.cons rfl)).app ((qc7 (c:=60) _ (by simp) (by decide)).app ((lx_num (b:=49) _ rfl rfl (noWord.cons rfl)).app cl)))
 | 3,_=>exact (op _).app ((lx_w 113 _ (by simp) (noWord.cons rfl)).app ((at_ _).app ((lx_w 98 _ (by simp) (noWord.cons rfl)).app ((qbw (p:=[38,38]) _ (by simp)).app ((lx_w 120 _ (by simp) (noWord.cons rfl)).app ((qc7 (c:=62) _ (by simp) (by decide)).app ((lx_num (b:=48) _ rfl rfl (noWord.cons rfl)).app cl)))))))
 | 4,_=>exact (op _).app ((lx_w 120 _ (by simp) (noWord.cons rfl)).app ((qbw (p:=[61,61]) _ (by simp)).app ((lx_w 121 _ (by simp) (noWord.cons rfl)).app cl)))
 | 5,_=>exact (op _).app ((lx_w 112 _ (by simp) (noWord.cons rfl)).app ((at_ _).app ((lx_w 98 _ (by simp) (noWord.cons rfl)).app cl)))
theorem Sen.lex:∀ (s:Sen),s.ok→∀ r,noWord r→LexTo s.text r s.toks
 | .con b,_,r,hr=>lx_con b hr
 | .atm i,h,r,_=>lx_atm h r
 | .una k s,h,r,hr=>(lx_una h.1 (s.head h.2.2)).app (s.lex h.2.2 r hr)
 | .bra s,h,r,hr=>(qdj (c:=40) _ (by simp)).app ((s.lex h _ (noWord.cons rfl)).app (qdj (c:=41) r (by simp)))
 | .bin k a b,h,r,hr=>by
   obtain ⟨hk,_,_,_,ha,hb⟩:=h
   refine (a.lex ha _ ?_).app ((lx_bin hk _).app (b.lex hb r hr))
   rw [List.append_assoc]
   exact noWord.bin hk _
theorem Sen.lexS (s:Sen) (h:s.ok) (hl:s.text.length≤60000):∃ (tks:List Tok) (x:Int),lexS s.text=(0,0,tks++[(5,[],0,x)])∧tks.map strip=s.toks:=by
 obtain ⟨f',tks,h1,h2,h3⟩:=s.lex h [] noWord.nil (s.text.length+1) 0 [] (by simp)
 rw [List.append_nil] at h3
 obtain ⟨g,rfl⟩:∃ g,f'=g+1:=⟨f'-1,by simp at h2;omega⟩
 refine ⟨tks,((0+s.text.length:Nat):Int),?_,h1⟩
 unfold Av.lexS
 rw [if_neg (by omega),h3]
 rfl
inductive Et where
 | nul (t:Trm)
 | un (k:Int) (x:Et)
 | bi (k:Int) (x y:Et)
def lvO (k:Int):Nat:=if k=6 then 5 else if k=7∨k=8 then 4 else if k=15 then 2 else if k=16 then 1 else 3
theorem lvO_le (k:Int):1≤lvO k∧lvO k≤5:=by unfold lvO;(repeat' split)<;>omega
def Et.flat:Et→List Trm
 | .nul t=>[t]
 | .un k x=>x.flat++[(k,0,[],[])]
 | .bi k x y=>x.flat++y.flat++[(k,0,[],[])]
def nulT (t:Trm):Prop:=mayT t=true∧(t.1=1∨t.1=2∨t.1=3)
def Et.wf:Et→Prop
 | .nul t=>nulT t
 | .un k x=>(k=4∨k=5)∧x.wf
 | .bi k x y=>(6≤k∧k≤16)∧x.wf∧y.wf
def Et.lv:Et→Nat
 | .nul _=>7
 | .un _ _=>6
 | .bi k _ _=>lvO k
theorem nulT.op {t:Trm} (h:nulT t):opE t.1=0:=by
 obtain ⟨_,h | h | h⟩:=h<;>rw [h]<;>rfl
theorem opE_un {k:Int} (h:k=4∨k=5):opE k=1:=by rcases h with rfl | rfl<;>rfl
theorem opE_bi {k:Int} (h:6≤k∧k≤16):opE k=2:=by unfold opE;(repeat' split)<;>omega
theorem Et.good:∀ (t:Et),t.wf→goodE t.flat
 | .nul t,h=>goodE.nul h.1 h.op
 | .un k x,h=>(x.good h.2).un (may_op (by have:=h.1;omega) (by have:=h.1;omega)) (opE_un h.1)
 | .bi k x y,h=>(x.good h.2.1).bi (y.good h.2.2) (may_op (by have:=h.1.1;omega) h.1.2) (opE_bi h.1)
theorem qbr {α:Type} {l l':List α} {x x':α} (h:l++[x]=l'++[x']):l=l'∧x=x':=by
 have:=List.append_inj' h rfl
 exact ⟨this.1,by simpa using this.2⟩
theorem Et.inj:∀ (t t':Et) (l l':List Trm),t.wf→t'.wf→l++t.flat=l'++t'.flat→l=l'∧t=t':=by
 have kind:∀ {t:Trm} {k:Int},nulT t→t=(k,0,[],[])→4≤k→False:=fun {t k} h e hk=>by
  have h1:t.1=k:=congrArg (·.1) e
  have h2:=h.2
  omega
 intro t
 induction t with
 | nul t=>
   intro t' l l' h h' e
   cases t' with
   | nul t'=>
     obtain ⟨e1,e2⟩:=qbr e
     exact ⟨e1,by rw [e2]⟩
   | un k x=>
     simp only [Et.flat,←List.append_assoc] at e
     exact (kind h (qbr e).2 (by rcases h'.1 with rfl | rfl<;>decide)).elim
   | bi k x y=>
     simp only [Et.flat,←List.append_assoc] at e
     exact (kind h (qbr e).2 (by have:=h'.1.1;omega)).elim
 | un k x ih=>
   intro t' l l' h h' e
   cases t' with
   | nul t'=>
     simp only [Et.flat,←List.append_assoc] at e
     exact (kind h' (qbr e).2.symm (by rcases h.1 with rfl | rfl<;>decide)).elim
   | un k' x'=>
     simp only [Et.flat,←List.append_assoc] at e
     obtain ⟨e1,e2⟩:=qbr e
     have hk:k=k':=congrArg (·.1) e2
     obtain ⟨e3,e4⟩:=ih x' l l' h.2 h'.2 e1
     exact ⟨e3,by rw [hk,e4]⟩
   | bi k' x' y'=>
     simp only [Et.flat,←List.append_assoc] at e
     obtain ⟨e1,e2⟩:=qbr e
     have hk:k=k':=congrArg (·.1) e2
     have h1:=h.1
     have h2:=h'.1
     omega
 | bi k x y ihx ihy=>
   intro t' l l' h h' e
   cases t' with
   | nul t'=>
     simp only [Et.flat,←List.append_assoc] at e
     exact (kind h' (qbr e).2.symm (by have:=h.1.1;omega)).elim
   | un k' x'=>
     simp only [Et.flat,←List.append_assoc] at e
     obtain ⟨e1,e2⟩:=qbr e
     have hk:k=k':=congrArg (·.1) e2
     have h1:=h.1
     have h2:=h'.1
     omega
   | bi k' x' y'=>
     simp only [Et.flat,←List.append_assoc] at e
     obtain ⟨e1,e2⟩:=qbr e
     have hk:k=k':=congrArg (·.1) e2
     obtain ⟨e3,e4⟩:=ihy y' _ _ h.2.2 h'.2.2 e1
     obtain ⟨e5,e6⟩:=ihx x' l l' h.2.1 h'.2.1 e3
     exact ⟨e5,by rw [hk,e4,e6]⟩
def eflats:List Et→List Trm
 | []=>[]
 | t::ts=>eflats ts++t.flat
def ewfs:List Et→Prop
 | []=>True
 | t::ts=>t.wf∧ewfs ts
theorem qco:∀ (e:List Trm) (ts:List Et) (n:Int),ewfs ts→eGo e (ts.length:Nat)=some n→∃ us:List Et,ewfs us∧(us.length:Int)=n∧eflats us=eflats ts++e
 | [],ts,n,h,hg=>⟨ts,h,Option.some.inj hg,by simp⟩
 | p::r,ts,n,h,hg=>by
   simp only [eGo] at hg
   split at hg
   ·cases hg
   ·rename_i hc
    simp only [Bool.or_eq_true,Bool.not_eq_true',decide_eq_true_eq,not_or,Bool.not_eq_false] at hc
    obtain ⟨hm,hd⟩:=hc
    have hop:=mayT_op hm
    have hle:=opE_le p.1
    have hk:opE p.1=0∨opE p.1=1∨opE p.1=2:=by omega
    have hz:opE p.1≠0→p=(p.1,0,[],[]):=fun h0=>by
     have hn:¬ p.1=1∧¬ p.1=2∧¬ p.1=3:=⟨fun h=>h0 (by rw [h];rfl),fun h=>h0 (by rw [h];rfl),fun h=>h0 (by rw [h];rfl)⟩
     unfold mayT at hm
     rw [if_neg hn.1,if_neg hn.2.1,if_neg hn.2.2] at hm
     simp only [Bool.and_eq_true,decide_eq_true_eq,beq_iff_eq] at hm
     obtain ⟨a,b,c,d⟩:=p
     have h1:b=0:=hm.1.1.2
     have h2:c=[]:=hm.1.2
     have h3:d=[]:=hm.2
     rw [h1,h2,h3]
    rcases hk with h0 | h1 | h2
    ·have ht:nulT p:=⟨hm,by unfold opE at h0;(repeat' split at h0)<;>omega⟩
     rw [h0] at hg
     obtain ⟨us,u1,u2,u3⟩:=qco r (.nul p::ts) n ⟨ht,h⟩ (by rw [←hg];congr 1<;>simp)
     exact ⟨us,u1,u2,by rw [u3];simp [eflats,Et.flat]⟩
    ·cases ts with
     | nil=>simp at hd;omega
     | cons x ts=>
       rw [h1] at hg
       have hw:(Et.un p.1 x).wf:=⟨by unfold opE at h1;(repeat' split at h1)<;>omega,h.1⟩
       obtain ⟨us,u1,u2,u3⟩:=qco r (.un p.1 x::ts) n ⟨hw,h.2⟩ (by rw [←hg];congr 1<;>simp)
       refine ⟨us,u1,u2,?_⟩
       rw [u3]
       have:=hz (by omega)
       simp only [eflats,Et.flat]
       rw [←this]
       simp
    ·cases ts with
     | nil=>simp at hd;omega
     | cons y ts=>
       cases ts with
       | nil=>simp at hd;omega
       | cons x ts=>
         rw [h2] at hg
         have hw:(Et.bi p.1 x y).wf:=⟨by unfold opE at h2;(repeat' split at h2)<;>omega,h.2.1,h.1⟩
         obtain ⟨us,u1,u2,u3⟩:=qco r (.bi p.1 x y::ts) n ⟨hw,h.2.2⟩ (by rw [←hg];congr 1;simp;omega)
         refine ⟨us,u1,u2,?_⟩
         rw [u3]
         have:=hz (by omega)
         simp only [eflats,Et.flat]
         rw [←this]
         simp
theorem rightE_tree {e:List Trm} (h:rightE e=true):∃ t:Et,t.wf∧e=t.flat∧e.length≤30:=by
 unfold rightE fin30 at h
 cases hg:eGo e 0 with
 | none=>rw [hg] at h;cases h
 | some d=>
   rw [hg] at h
   simp only [Bool.and_eq_true,decide_eq_true_eq] at h
   obtain ⟨us,u1,u2,u3⟩:=qco e [] d trivial hg
   rw [h.1] at u2
   match us,u1,u2,u3 with
   | [t],u1,_,u3=>exact ⟨t,u1.1,by simpa [eflats] using u3.symm,h.2⟩
theorem tree_rightE {t:Et} (h:t.wf) (hl:t.flat.length≤30):rightE t.flat=true:=(t.good h).right hl
def opW (k:Int):List UInt8:=if k=6 then [42] else if k=7 then [43] else if k=8 then [45] else if k=9 then [60] else if k=10 then [60,61] else if k=11 then [62] else if k=12 then [62,61] else if k=13 then [61,61] else if k=14 then [33,61] else if k=15 then [38,38] else [124,124]
def unW (k:Int):List UInt8:=if k=4 then [33] else [45]
theorem qcp {k:Int} (h:6≤k∧k≤16):k=6∨k=7∨k=8∨k=9∨k=10∨k=11∨k=12∨k=13∨k=14∨k=15∨k=16:=by omega
theorem sgW_op {k:Int} (h:6≤k∧k≤16):sgW (opW k)=(k,lvO k):=by
 rcases qcp h with rfl | rfl | rfl | rfl | rfl | rfl | rfl | rfl | rfl | rfl | rfl<;>rfl
def lfO (n:Nat):Nat:=if n=3 then 4 else n
inductive De where
 | nul (t:Trm) (w:List UInt8)
 | un (k:Int) (d:De)
 | bi (k:Int) (a b:De)
 | bra (d:De)
def De.tree:De→Et
 | .nul t _=>.nul t
 | .un k d=>.un k d.tree
 | .bi k a b=>.bi k a.tree b.tree
 | .bra d=>d.tree
def De.lv:De→Nat
 | .nul _ _=>7
 | .un _ _=>6
 | .bi k _ _=>lvO k
 | .bra _=>7
def De.ok:De→Prop
 | .nul t _=>nulT t
 | .un k d=>(k=4∨k=5)∧6≤d.lv∧d.ok
 | .bi k a b=>(6≤k∧k≤16)∧lfO (lvO k)≤a.lv∧lvO k+1≤b.lv∧a.ok∧b.ok
 | .bra d=>d.ok
def nulK (t:Trm) (w:List UInt8):List TokS:=if t.1=1 then [(1,w,t.2.1)] else if t.1=2 then [(2,t.2.2.1,0)] else [(2,t.2.2.1,0),(4,[64],0),(2,t.2.2.2,0)]
def De.toks:De→List TokS
 | .nul t w=>nulK t w
 | .un k d=>(4,unW k,0)::d.toks
 | .bi k a b=>a.toks++((4,opW k,0)::b.toks)
 | .bra d=>(4,[40],0)::(d.toks++[(4,[41],0)])
def PreT:List TokS→List Tok→Nat→Prop
 | [],_,_=>True
 | t::ts,l,a=>(a<l.length∧strip (tkD l a)=t)∧PreT ts l (a+1)
theorem PreT.app:∀ (s t:List TokS) (l:List Tok) (a:Nat),PreT (s++t) l a→PreT s l a∧PreT t l (a+s.length)
 | [],t,l,a,h=>⟨trivial,h⟩
 | x::s,t,l,a,h=>by
   obtain ⟨h1,h2⟩:=PreT.app s t l (a+1) h.2
   refine ⟨⟨h.1,h1⟩,?_⟩
   rw [List.length_cons,show a+(s.length+1)=a+1+s.length by omega]
   exact h2
theorem tkS_1 {l:List Tok} {a:Nat} {k n:Int} {w:List UInt8} (h:strip (tkD l a)=(k,w,n)):(tkD l a).1=k:=congrArg (·.1) h
theorem tkS_2 {l:List Tok} {a:Nat} {k n:Int} {w:List UInt8} (h:strip (tkD l a)=(k,w,n)):(tkD l a).2.1=w:=congrArg (·.2.1) h
theorem tkS_3 {l:List Tok} {a:Nat} {k n:Int} {w:List UInt8} (h:strip (tkD l a)=(k,w,n)):(tkD l a).2.2.1=n:=congrArg (·.2.2) h
theorem qd9 {l:List Tok} {a:Nat} {n:Int} {w:List UInt8} (h:strip (tkD l a)=(4,w,n)):isS l a w=true:=by
 unfold isS
 rw [tkS_1 h,tkS_2 h]
 simp
theorem sgE_of {l:List Tok} {a:Nat} {k n:Int} (hk:6≤k∧k≤16) (h:strip (tkD l a)=(4,opW k,n)):sgE l a=(k,lvO k):=by
 unfold sgE
 rw [if_pos (tkS_1 h),tkS_2 h,sgW_op hk]
section
variable {l:List Tok}
theorem lv_down {a b:Nat} {e:List Trm}:∀ (k n:Nat),n+k≤6→(sgE l b).2<n→PE l (.lv (n+k) a) (.ok b e)→PE l (.lv n a) (.ok b e)
 | 0,n,_,_,h=>h
 | k+1,n,h6,hs,h=>by
   have h':PE l (.lv (n+1+k) a) (.ok b e):=by rw [show n+1+k=n+(k+1) by omega];exact h
   exact pe_lv (by omega) (lv_down k (n+1) (by omega) (by omega) h') (pe_stop (by omega))
theorem lv_to {a b m n:Nat} {e:List Trm} (h:PE l (.lv m a) (.ok b e)) (hm:m≤6) (hn:n≤m) (hs:(sgE l b).2<n):PE l (.lv n a) (.ok b e):=
 lv_down (m-n) n (by omega) hs (by rw [show n+(m-n)=m by omega];exact h)
theorem De.read (hend:∀ a,a<l.length→True):∀ (d:De),d.ok→∀ a,PreT d.toks l a→¬ isS l (a+d.toks.length) [64]=true→
  (6≤d.lv→PE l (.un a) (.ok (a+d.toks.length) d.tree.flat))∧
  (∀ n,1≤n→n≤6→n≤d.lv→(sgE l (a+d.toks.length)).2<n→PE l (.lv n a) (.ok (a+d.toks.length) d.tree.flat))∧
  (∀ n r,1≤n→n≤5→n≠3→n≤d.lv→(sgE l (a+d.toks.length)).2<n+1→PE l (.lp n (a+d.toks.length) d.tree.flat) r→PE l (.lv n a) r):=by
 have alone:∀ {a b:Nat} {e:List Trm},PE l (.un a) (.ok b e)→(∀ n,1≤n→n≤6→(sgE l b).2<n→PE l (.lv n a) (.ok b e))∧(∀ n r,1≤n→n≤5→(sgE l b).2<n+1→PE l (.lp n b e) r→PE l (.lv n a) r):=fun {a b e} h=>by
  have h6:=pe_six h
  exact ⟨fun n h1 h2 hs=>lv_to h6 (Nat.le_refl 6) h2 hs,fun n r h1 h2 hs hr=>pe_lv (by omega) (lv_to h6 (Nat.le_refl 6) (by omega) hs) hr⟩
 intro d
 induction d with
 | nul t w=>
   intro h a hp hn
   have hu:PE l (.un a) (.ok (a+(De.nul t w).toks.length) (De.nul t w).tree.flat):=by
    obtain ⟨hm,hk | hk | hk⟩:=h
    ·have et:(De.nul t w).toks=[(1,w,t.2.1)]:=if_pos hk
     rw [et] at hp ⊢
     have:=pe_num (tkS_1 hp.1.2)
     rw [tkS_3 hp.1.2] at this
     have e:t=(1,t.2.1,[],[]):=by
      unfold mayT at hm
      rw [if_pos hk] at hm
      simp only [Bool.and_eq_true,beq_iff_eq] at hm
      obtain ⟨a,b,c,d⟩:=t
      have h1:a=1:=hk
      have h2:c=[]:=hm.1.2
      have h3:d=[]:=hm.2
      rw [h1,h2,h3]
     show PE l _ (.ok (a+1) [t])
     rw [e]
     exact this
    ·have et:(De.nul t w).toks=[(2,t.2.2.1,0)]:=by show nulK t w=_;unfold nulK;rw [if_neg (by rw [hk];decide),if_pos hk]
     rw [et] at hp hn ⊢
     have:=pe_word (tkS_1 hp.1.2)
     have hn:¬ isS l (a+1) [64]=true:=hn
     rw [if_neg hn,tkS_2 hp.1.2] at this
     have e:t=(2,0,t.2.2.1,[]):=by
      unfold mayT at hm
      rw [if_neg (by rw [hk];decide),if_pos hk] at hm
      simp only [Bool.and_eq_true,beq_iff_eq,decide_eq_true_eq] at hm
      obtain ⟨a,b,c,d⟩:=t
      have h1:a=2:=hk
      have h2:b=0:=hm.1.1
      have h3:d=[]:=hm.2
      rw [h1,h2,h3]
     show PE l _ (.ok (a+1) [t])
     rw [e]
     exact this
    ·have et:(De.nul t w).toks=[(2,t.2.2.1,0),(4,[64],0),(2,t.2.2.2,0)]:=by show nulK t w=_;unfold nulK;rw [if_neg (by rw [hk];decide),if_neg (by rw [hk];decide)]
     rw [et] at hp ⊢
     have:=pe_word (tkS_1 hp.1.2)
     rw [if_pos (qd9 hp.2.1.2),if_pos (tkS_1 hp.2.2.1.2),tkS_2 hp.1.2,tkS_2 hp.2.2.1.2] at this
     have e:t=(3,0,t.2.2.1,t.2.2.2):=by
      unfold mayT at hm
      rw [if_neg (by rw [hk];decide),if_neg (by rw [hk];decide),if_pos hk] at hm
      simp only [Bool.and_eq_true,decide_eq_true_eq] at hm
      obtain ⟨a,b,c,d⟩:=t
      have h1:a=3:=hk
      have h2:b=0:=hm.1.1
      rw [h1,h2]
     show PE l _ (.ok (a+3) [t])
     rw [e]
     exact this
   obtain ⟨h1,h2⟩:=alone hu
   exact ⟨fun _=>hu,fun n a b _ c=>h1 n a b c,fun n r a b _ _ c=>h2 n r a b c⟩
 | un k d ih=>
   intro h a hp hn
   obtain ⟨hk,h6,hd⟩:=h
   have el:a+(De.un k d).toks.length=a+1+d.toks.length:=by simp only [De.toks,List.length_cons];omega
   rw [el] at hn ⊢
   have hx:=(ih hd (a+1) hp.2 hn).1 h6
   have hu:PE l (.un a) (.ok (a+1+d.toks.length) (De.un k d).tree.flat):=by
    rcases hk with rfl | rfl
    ·exact pe_not (qd9 hp.1.2) hx
    ·exact pe_neg (qd9 hp.1.2) hx
   obtain ⟨h1,h2⟩:=alone hu
   exact ⟨fun _=>hu,fun n a b _ c=>h1 n a b c,fun n r a b _ _ c=>h2 n r a b c⟩
 | bra d ih=>
   intro h a hp hn
   have hp2:=PreT.app d.toks [(4,[41],0)] l (a+1) hp.2
   have el:a+(De.bra d).toks.length=a+1+d.toks.length+1:=by simp only [De.toks,List.length_cons,List.length_append,List.length_nil];omega
   rw [el] at hn ⊢
   have hc:=hp2.2.1.2
   have hs0:(sgE l (a+1+d.toks.length)).2=0:=by
    unfold sgE
    rw [if_pos (tkS_1 hc),tkS_2 hc]
    rfl
   have h1v:1≤d.lv:=by
    cases d with
    | bi k x y=>exact (lvO_le k).1
    | nul _ _=>show 1≤7;omega
    | un _ _=>show 1≤6;omega
    | bra _=>show 1≤7;omega
   have hx:=(ih h (a+1) hp2.1 (qdi (qd9 hc) (by decide))).2.1 1 (Nat.le_refl 1) (by omega) h1v (by omega)
   have hu:PE l (.un a) (.ok (a+1+d.toks.length+1) (De.bra d).tree.flat):=by
    have:=pe_bra (qd9 hp.1.2) hx
    rw [if_pos (qd9 hc)] at this
    exact this
   obtain ⟨h1,h2⟩:=alone hu
   exact ⟨fun _=>hu,fun n a b _ c=>h1 n a b c,fun n r a b _ _ c=>h2 n r a b c⟩
 | bi k x y ihx ihy=>
   intro h a hp hn
   obtain ⟨hk,hxl,hyl,hx,hy⟩:=h
   have hp1:=PreT.app x.toks ((4,opW k,0)::y.toks) l a hp
   have el:a+(De.bi k x y).toks.length=a+x.toks.length+1+y.toks.length:=by simp only [De.toks,List.length_cons,List.length_append];omega
   rw [el] at hn ⊢
   have hop:=hp1.2.1.2
   have hsg:=sgE_of hk hop
   have hl5:=lvO_le k
   have hs2:(sgE l (a+x.toks.length)).2=lvO k:=by rw [hsg]
   have hno:¬ isS l (a+x.toks.length) [64]=true:=by
    refine qdi (qd9 hop) fun h=>?_
    have:=sgW_op hk
    rw [h] at this
    have h2:(0:Int)=k:=congrArg (·.1) this
    omega
   have IX:=ihx hx a hp1.1 hno
   have IY:=ihy hy (a+x.toks.length+1) hp1.2.2 hn
   have hflat:(De.bi k x y).tree.flat=x.tree.flat++y.tree.flat++[((sgE l (a+x.toks.length)).1,0,[],[])]:=by rw [hsg];rfl
   have own:lvO k≠3→∀ r,(sgE l (a+x.toks.length+1+y.toks.length)).2<lvO k+1→PE l (.lp (lvO k) (a+x.toks.length+1+y.toks.length) (De.bi k x y).tree.flat) r→PE l (.lv (lvO k) a) r:=fun h3 r hs hr=>by
    have hlf:lfO (lvO k)=lvO k:=if_neg h3
    refine IX.2.2 (lvO k) r hl5.1 hl5.2 h3 (by omega) (by omega) ?_
    refine pe_more h3 hs2 (IY.2.1 (lvO k+1) (by omega) (by omega) hyl hs) ?_
    rw [←hflat]
    exact hr
   have own3:(sgE l (a+x.toks.length+1+y.toks.length)).2<lvO k+1→(lvO k≠3→(sgE l (a+x.toks.length+1+y.toks.length)).2≠lvO k)→PE l (.lv (lvO k) a) (.ok (a+x.toks.length+1+y.toks.length) (De.bi k x y).tree.flat):=fun hs hs'=>by
    by_cases h3:lvO k=3
    ·have hlf:lfO (lvO k)=4:=if_pos h3
     have hx4:=IX.2.1 4 (by omega) (by omega) (by omega) (by omega)
     have hy4:=IY.2.1 4 (by omega) (by omega) (by omega) (by omega)
     rw [hflat,h3]
     exact pe_lv (by omega) hx4 (pe_three (by omega) hy4)
    ·exact own h3 _ hs (pe_stop (hs' h3))
   refine ⟨fun h6=>?_,fun n h1 h6 hlv hs=>?_,fun n r h1 h5 h3 hlv hs hr=>?_⟩
   ·have h6:6≤lvO k:=h6
    omega
   ·have hlv:n≤lvO k:=hlv
    exact lv_to (own3 (by omega) (fun _=>by omega)) (by omega) hlv hs
   ·have hlv:n≤lvO k:=hlv
    by_cases hq:n=lvO k
    ·subst hq
     exact own h3 r hs hr
    ·exact pe_lv (by omega) (lv_to (own3 (by omega) (fun _=>by omega)) (by omega) (by omega) hs) hr
end
section
variable {vs:List Vrb} {ps:List Pcs} (ts:List Trn)
end
end Go.Proofs.YtkmpkebaloejhaaDoor.Av
