/- The plain law of ExprRight: what its twin computes answers true. Conditions: none. -/
import Derived.Test.YtkmpkebaloejhaaDoorEr3
import Derived.Test.YtkmpkebaloejhaaDoorRead
import Derived.KernelRfl
set_option linter.unusedSimpArgs false
set_option linter.unusedVariables false
set_option maxRecDepth 100000
namespace Go.Proofs.YtkmpkebaloejhaaDoor.Av
open Go
theorem qai (a b:Int):Ops.lt Ops.std a b=decide (a<b):=rfl
theorem qao (a b:Int):Ops.eq Ops.std a b=decide (a=b):=rfl
theorem qay (n b:Nat):Ops.lim Ops.std n b=decide (n*b≤140737488355328):=rfl
theorem qaz (a b:Int):Ops.le Ops.std a b=decide (a≤b):=by
 simp only [Ops.le,qai]
 by_cases h:a≤b
 ·have:¬ b<a:=by omega
  simp [h,this]
 ·have:b<a:=by omega
  simp [h,this]
theorem qak (j:Int) (n:Nat):Ops.inb Ops.std j n=decide (0≤j∧j<(n:Int)):=by
 simp only [Ops.inb,qai]
 by_cases h:j<0
 ·have:¬ (0≤j∧j<(n:Int)):=by omega
  simp [h,this]
 ·by_cases h2:j<(n:Int)
  ·have:(0≤j∧j<(n:Int)):=by omega
   simp [h,h2,this]
  ·have:¬ (0≤j∧j<(n:Int)):=by omega
   simp [h,h2,this]
theorem qaa {α:Type} (p:Prop) [Decidable p] (x y:α):cond (decide p) x y=if p then x else y:=by by_cases h:p<;>simp [h]
theorem qbt (p:Prop) [Decidable p]:(!decide p)=decide (¬ p):=by by_cases h:p<;>simp [h]
theorem ob_s {α R:Type} (a:α) (f:α→Option R):ob (some a) f=f a:=rfl
theorem qdg {α:Type} (x y:α):cond true x y=x:=rfl
theorem qdh {α:Type} (x y:α):cond false x y=y:=rfl
theorem wrap64 {n:Int} (h1:-9223372036854775808≤n) (h2:n≤9223372036854775807):IntKind.wrap IntKind.i64 n=n:=wrap_id h1 h2
theorem qaf (n:Nat):Int.toNat (Nat.cast n)=n:=Int.toNat_natCast n
theorem ite_dec {α:Type} (p:Prop) [Decidable p] (x y:α):(bif decide p then x else y)=if p then x else y:=qaa p x y
theorem qa3 {α:Type} (l:List α) (x:α) (r:List α) (d:α):(l++x::r).getD l.length d=x:=by
 rw [List.getD_eq_getElem?_getD,List.getElem?_append_right (Nat.le_refl _)];simp
theorem qbj {α:Type} {s:List α} {n:Nat} (d:α) (h:n<s.length):s.drop n=s.getD n d::s.drop (n+1):=by
 rw [List.drop_eq_getElem_cons h]
 congr 1
 simp [List.getD_eq_getElem?_getD,List.getElem?_eq_getElem h]
theorem pickN (x:Int) (n:Nat) (h0:0<n) (h1:n<1000000):∃ k:Nat,k<n∧M24 x (n:Nat)=some (k:Int):=by
 show ∃ k:Nat,k<n∧T24 Ops.std x (n:Nat) some=_
 unfold T24
 simp only [qao,qai,qaa]
 rw [if_neg (by omega)]
 have h2:=Int.tmod_lt_of_pos x (show (0:Int)<(n:Nat) by omega)
 have h3:=Int.lt_tmod_of_pos x (show (0:Int)<(n:Nat) by omega)
 generalize Int.tmod x (n:Nat)=q at h2 h3 ⊢
 by_cases hq:q<0
 ·refine ⟨(q+n).toNat,by omega,?_⟩
  rw [if_pos hq,wrap64 (by omega) (by omega)]
  congr 1;omega
 ·refine ⟨q.toNat,by omega,?_⟩
  rw [if_neg hq]
  congr 1;omega
theorem next_ok (l:List Int) (pl:Nat) (a:Nat) (ha:a≤1000) (n:Nat) (h0:0<n) (h1:n<1000):∃ (k a':Nat),k<n∧a≤a'∧a'≤a+1∧M90 (n:Nat) l (a:Nat)=some ((k:Int),l,(a':Int)):=by
 show ∃ (k a':Nat),k<n∧a≤a'∧a'≤a+1∧T90 Ops.std M24 (n:Nat) l (a:Nat) some=_
 unfold T90
 simp only [qao,qak,qaa]
 by_cases hl:(l.length:Int)=0
 ·rw [if_pos hl]
  exact ⟨0,a,h0,Nat.le_refl _,by omega,rfl⟩
 ·have hw:IntKind.wrap IntKind.i64 ((a:Int)+1)=((a+1:Nat):Int):=qag (by omega)
  rw [if_neg hl,if_neg hl,hw]
  have ht:Int.tmod ((a+1:Nat):Int) (l.length:Nat)=(((a+1) % l.length:Nat):Int):=by rw [←Int.ofNat_tmod]
  have hd:Int.tdiv ((a+1:Nat):Int) (l.length:Nat)=(((a+1) / l.length:Nat):Int):=by rw [←Int.ofNat_tdiv]
  rw [ht,hd]
  have hlp:0<l.length:=by omega
  have hm:=Nat.mod_lt (a+1) hlp
  have hq:(a+1) / l.length≤a+1:=Nat.div_le_self _ _
  generalize (a+1) / l.length=q at hq ⊢
  generalize (a+1) % l.length=m at hm ⊢
  rw [if_pos (by omega),if_neg hl,wrap64 (n:=(q:Int)) (by omega) (by omega),wrap64 (n:=1+(q:Int)) (by omega) (by omega),if_neg (by omega)]
  obtain ⟨k,hk,hp⟩:=pickN (IntKind.wrap IntKind.i64 (Int.tdiv (l.getD (Int.toNat (m:Int)) (Ty.dflt ty3)) (1+(q:Int)))) n h0 (by omega)
  rw [hp,ob_s]
  exact ⟨k,a+1,hk,by omega,by omega,rfl⟩
def fA:Nat→Nat
 | 0=>3
 | h+1=>2*fA h+3
def FOk (l:List Int) (o:Option (List UInt8×List Int×Int)) (a b c:Nat):Prop:=∃ (s:List UInt8) (a':Nat),o=some (s,l,(a':Int))∧s.length≤b∧a≤a'∧a'≤a+c
theorem qcn {l:List (List UInt8)} {n:Nat} (h:l.all (fun x=>decide (x.length≤n))=true) (k:Nat):(l.getD k []).length≤n:=by
 rw [List.getD_eq_getElem?_getD]
 cases hk:l[k]? with
 | none=>simp
 | some x=>
   rw [List.all_eq_true] at h
   simpa using h x (List.mem_of_getElem? hk)
theorem FOk.mono {l:List Int} {o:Option (List UInt8×List Int×Int)} {a b c b' c':Nat} (h:FOk l o a b c) (hb:b≤b') (hc:c≤c'):FOk l o a b' c':=by
 obtain ⟨s,a',e1,e2,e3,e4⟩:=h
 exact ⟨s,a',e1,by omega,e3,by omega⟩
def eB:Nat→Nat
 | 0=>10
 | h+1=>2*eB h+10
theorem eB_le:∀ h,h≤4→eB h≤310∧fA h≤93:=by
 intro h hh
 match h with
 | 0 | 1 | 2 | 3 | 4=>decide
noncomputable abbrev nxt:=M90
theorem qdi (l:List Int) (a:Nat) (ha:a≤1000) (n:Nat) (m:Int) (hm:m=(n:Nat)) (h0:0<n) (h1:n<1000):∃ (k a':Nat),k<n∧a≤a'∧a'≤a+1∧M90 m l (a:Nat)=some ((k:Int),l,(a':Int)):=by
 subst hm
 exact next_ok l 0 a ha n h0 h1
theorem expr_k (l:List Int) (deep:Int) (d:Nat) (l0:List Int) (a0:Int) (B A:Nat) (hB:B≤310) (hA:A≤93) (k:Nat) (hk:k<20) (V:Nat) (hV:V≤900) (hrec:k<14→∀ a:Nat,a≤V→FOk l (Rec49 d (IntKind.wrap IntKind.i64 (deep+1)) l a) a B A) (a:Nat) (ha:a+A+5≤V) (n:Nat) :
  FOk l (R49 M90 (Rec49 d) deep l0 a0 (n+1) (.l1004 k l a)) a (2*B+10) (2*A+2):=by
 show FOk l (T49 Ops.std M90 (Rec49 d) deep l0 a0 _ some _) a _ _
 unfold T49
 simp only [qai,qao,qak,qay,qaa,mt]
 by_cases h10:(k:Int)<10
 ·obtain ⟨s,a1,e1,e2,e3,e4⟩:=hrec (by omega) a (by omega)
  obtain ⟨s2,a2,f1,f2,f3,f4⟩:=hrec (by omega) a1 (by omega)
  rw [if_pos h10,e1,ob_s]
  dsimp only
  rw [f1,ob_s]
  dsimp only
  obtain ⟨j,a3,g1,g2,g3,g4⟩:=qdi l a2 (by omega) 11 11 rfl (by omega) (by omega)
  rw [g4,ob_s]
  dsimp only
  rw [if_pos (by omega)]
  obtain ⟨i,a4,i1,i2,i3,i4⟩:=qdi l a3 (by omega) 2 2 rfl (by omega) (by omega)
  rw [i4,ob_s]
  dsimp only
  have hlen:=qcn (n:=2) (l:=[[43],[45],[42],[60],[60,61],[61,61],[33,61],[38,38],[124,124],[62],[62,61]]) rfl (Int.toNat (j:Int))
  generalize ([[43],[45],[42],[60],[60,61],[61,61],[33,61],[38,38],[124,124],[62],[62,61]]:List (List UInt8)).getD (Int.toNat (j:Int)) []=x at hlen ⊢
  simp only [List.length_append,List.length_cons,List.length_nil]
  by_cases hi:(i:Int)=0
  ·rw [if_pos hi,if_pos (by omega),if_pos (by omega),if_pos (by omega),if_pos (by omega),if_pos (by omega),if_pos (by omega)]
   exact ⟨_,a4,rfl,by simp;omega,by omega,by omega⟩
  ·rw [if_neg hi,if_pos (by omega),if_pos (by omega),if_pos (by omega),if_pos (by omega),if_pos (by omega),if_pos (by omega)]
   exact ⟨_,a4,rfl,by simp;omega,by omega,by omega⟩
 ·rw [if_neg h10]
  by_cases h:(k:Int)=10
  ·obtain ⟨s,a1,e1,e2,e3,e4⟩:=hrec (by omega) a (by omega)
   rw [if_pos h,e1,ob_s]
   dsimp only
   simp only [List.length_append,List.length_cons,List.length_nil]
   rw [if_pos (by omega),if_pos (by omega)]
   exact ⟨_,a1,rfl,by simp;omega,by omega,by omega⟩
  ·rw [if_neg h]
   clear h
   by_cases h:(k:Int)=11
   ·obtain ⟨s,a1,e1,e2,e3,e4⟩:=hrec (by omega) a (by omega)
    rw [if_pos h,e1,ob_s]
    dsimp only
    simp only [List.length_append,List.length_cons,List.length_nil]
    rw [if_pos (by omega),if_pos (by omega)]
    exact ⟨_,a1,rfl,by simp;omega,by omega,by omega⟩
   ·rw [if_neg h]
    clear h
    by_cases h:(k:Int)=12
    ·obtain ⟨s,a1,e1,e2,e3,e4⟩:=hrec (by omega) a (by omega)
     obtain ⟨s2,a2,f1,f2,f3,f4⟩:=hrec (by omega) a1 (by omega)
     rw [if_pos h,e1,ob_s]
     dsimp only
     rw [if_pos (by omega),f1,ob_s]
     dsimp only
     simp only [List.length_append,List.length_cons,List.length_nil]
     rw [if_pos (by omega)]
     exact ⟨_,a2,rfl,by simp;omega,by omega,by omega⟩
    ·rw [if_neg h]
     clear h
     by_cases h:(k:Int)=13
     ·obtain ⟨s,a1,e1,e2,e3,e4⟩:=hrec (by omega) a (by omega)
      rw [if_pos h,e1,ob_s]
      dsimp only
      rw [if_pos (by omega)]
      exact ⟨_,a1,rfl,by simp;omega,by omega,by omega⟩
     ·rw [if_neg h]
      clear h hrec
      have hnum:FOk l (ob (M90 4 l a) fun y0=>if (0:Int)≤Prod.fst y0∧Prod.fst y0<(4:Int) then some (([[48],[49],[50],[48,48,55]]:List (List UInt8)).getD (Int.toNat (Prod.fst y0)) [],Prod.fst (Prod.snd y0),Prod.snd (Prod.snd y0)) else none) a (2*B+10) (2*A+2):=by
       obtain ⟨j,a3,g1,g2,g3,g4⟩:=qdi l a (by omega) 4 4 rfl (by omega) (by omega)
       rw [g4,ob_s]
       dsimp only
       rw [if_pos (by omega)]
       have hlen:=qcn (n:=3) (l:=[[48],[49],[50],[48,48,55]]) rfl (Int.toNat (j:Int))
       exact ⟨_,a3,rfl,by omega,by omega,by omega⟩
      by_cases h:(k:Int)=14
      ·rw [if_pos h];exact hnum
      ·rw [if_neg h]
       clear h
       by_cases h:(k:Int)=15
       ·rw [if_pos h];exact hnum
       ·rw [if_neg h]
        clear h hnum
        by_cases h:(k:Int)=16
        ·rw [if_pos h]
         obtain ⟨j,a3,g1,g2,g3,g4⟩:=qdi l a (by omega) 2 2 rfl (by omega) (by omega)
         obtain ⟨i,a4,i1,i2,i3,i4⟩:=qdi l a3 (by omega) 3 3 rfl (by omega) (by omega)
         rw [g4,ob_s]
         dsimp only
         have hlen:=qcn (n:=1) (l:=[[112],[113],[114]]) rfl (Int.toNat (j:Int))
         have hlen2:=qcn (n:=1) (l:=[[97],[98],[99],[100]]) rfl (Int.toNat (i:Int))
         generalize ([[112],[113],[114]]:List (List UInt8)).getD (Int.toNat (j:Int)) []=x at hlen ⊢
         rw [if_pos (by omega),if_pos (by omega),i4,ob_s]
         dsimp only
         generalize ([[97],[98],[99],[100]]:List (List UInt8)).getD (Int.toNat (i:Int)) []=y at hlen2 ⊢
         simp only [List.length_append,List.length_cons,List.length_nil]
         rw [if_pos (by omega),if_pos (by omega)]
         exact ⟨_,a4,rfl,by simp;omega,by omega,by omega⟩
        ·rw [if_neg h]
         obtain ⟨j,a3,g1,g2,g3,g4⟩:=qdi l a (by omega) 2 2 rfl (by omega) (by omega)
         rw [g4,ob_s]
         dsimp only
         rw [if_pos (by omega)]
         have hlen:=qcn (n:=1) (l:=[[120],[121],[122]]) rfl (Int.toNat (j:Int))
         exact ⟨_,a3,rfl,by omega,by omega,by omega⟩
theorem expr_h (l:List Int):∀ (h:Nat),h≤4→∀ (d:Nat),h<d→∀ (a:Nat),a≤800-150*h→FOk l (Rec49 d ((4-h:Nat):Int) l a) a (eB h) (fA h):=by
 intro h
 induction h with
 | zero=>
   intro hh d hd a ha
   obtain ⟨e,rfl⟩:∃ e,d=e+1:=⟨d-1,by omega⟩
   show FOk l (T49 Ops.std M90 (Rec49 e) ((4-0:Nat):Int) l a (R49 M90 (Rec49 e) ((4-0:Nat):Int) l a 1000000) some none) a _ _
   unfold T49
   obtain ⟨k,a1,e1,e2,e3,e4⟩:=qdi l a (by omega) 20 20 rfl (by omega) (by omega)
   rw [e4,ob_s]
   simp only [qai,qao,qaa]
   rw [if_pos (by omega),if_neg (by omega)]
   have ht:Int.tmod (k:Int) 6=((k % 6:Nat):Int):=by rw [show (6:Int)=((6:Nat):Int) from rfl,←Int.ofNat_tmod]
   rw [ht,show IntKind.wrap IntKind.i64 (14+((k % 6:Nat):Int))=((14+k % 6:Nat):Int) by rw [wrap64 (by omega) (by omega)];omega]
   have:=expr_k l ((4-0:Nat):Int) e l (a:Int) 0 0 (by omega) (by omega) (14+k % 6) (by omega) 900 (by omega) (fun h=>by omega) a1 (by omega) 999999
   obtain ⟨s,a',g1,g2,g3,g4⟩:=this
   exact ⟨s,a',g1,by simp [eB];omega,by omega,by simp [fA];omega⟩
 | succ h ih=>
   intro hh d hd a ha
   obtain ⟨e,rfl⟩:∃ e,d=e+1:=⟨d-1,by omega⟩
   have hb:=eB_le h (by omega)
   have hb3:fA h≤45:=by
    have:h≤3:=by omega
    match h,this with
    | 0,_ | 1,_ | 2,_ | 3,_=>decide
   show FOk l (T49 Ops.std M90 (Rec49 e) ((4-(h+1):Nat):Int) l a (R49 M90 (Rec49 e) ((4-(h+1):Nat):Int) l a 1000000) some none) a _ _
   unfold T49
   obtain ⟨k,a1,e1,e2,e3,e4⟩:=qdi l a (by omega) 20 20 rfl (by omega) (by omega)
   rw [e4,ob_s]
   simp only [qai,qao,qaa]
   rw [if_neg (by omega)]
   have hdeep:IntKind.wrap IntKind.i64 (((4-(h+1):Nat):Int)+1)=((4-h:Nat):Int):=by rw [wrap64 (by omega) (by omega)];omega
   have hrec:∀ a:Nat,a≤800-150*h→FOk l (Rec49 e (IntKind.wrap IntKind.i64 (((4-(h+1):Nat):Int)+1)) l a) a (eB h) (fA h):=fun a ha=>by
    rw [hdeep];exact ih (by omega) e (by omega) a ha
   have step:=fun (k:Nat) (hk:k<20)=>expr_k l ((4-(h+1):Nat):Int) e l (a:Int) (eB h) (fA h) (by omega) (by omega) k hk (800-150*h) (by omega) (fun _=>hrec) a1 (by omega) 999999
   have fin:∀ o,FOk l o a1 (2*eB h+10) (2*fA h+2)→FOk l o a (eB (h+1)) (fA (h+1)):=fun o ho=>by
    obtain ⟨s,a',g1,g2,g3,g4⟩:=ho
    exact ⟨s,a',g1,by simp only [eB];omega,by omega,by simp only [fA];omega⟩
   have ht:Int.tmod (k:Int) 6=((k % 6:Nat):Int):=by rw [show (6:Int)=((6:Nat):Int) from rfl,←Int.ofNat_tmod]
   split
   ·rw [if_neg (by omega),ht,show IntKind.wrap IntKind.i64 (14+((k % 6:Nat):Int))=((14+k % 6:Nat):Int) by rw [wrap64 (by omega) (by omega)];omega]
    exact fin _ (step (14+k % 6) (by omega))
   ·exact fin _ (step k e1)
theorem expr_ok (l:List Int) (h:Nat) (hh:h≤4) (m:Int) (hm:m=((4-h:Nat):Int)) (a:Nat) (ha:a≤200):FOk l (M49 m l a) a 310 93:=by
 subst hm
 have hb:=eB_le h hh
 obtain ⟨s,a',e1,e2,e3,e4⟩:=expr_h l h hh 1000000 (by omega) a (by omega)
 exact ⟨s,a',e1,by omega,e3,by omega⟩
theorem Expr_ok (l:List Int):∃ s:List UInt8,M16 l=some s∧s.length≤310:=by
 obtain ⟨s,a',e1,e2,e3,e4⟩:=expr_ok l 4 (by omega) 0 rfl 0 (by omega)
 refine ⟨s,?_,e2⟩
 show T16 Ops.std M49 l some=_
 unfold T16
 have e1':M49 0 l 0=some (s,l,(a':Int)):=e1
 rw [e1',ob_s]
section
variable (p0 p1:Int) (p2:List (List Int))
end
def digitP' (b:UInt8):Bool:=decide (48≤b.toNat) && decide (b.toNat≤57)
def lowerP (b:UInt8):Bool:=(decide (97≤b.toNat) && decide (b.toNat≤122)) || decide (b.toNat=95)
def wordP (b:UInt8):Bool:=lowerP b || digitP' b
def isWordP:List UInt8→Bool
 | []=>false
 | b::r=>lowerP b && r.all wordP && decide (r.length+1≤8)
theorem qec (b:UInt8):M105 (b.toNat:Int)=some (lowerP b):=by
 show T105 Ops.std _ some=_
 unfold T105 lowerP
 simp only [qaz,qao,qaa]
 have e1:((97:Int)≤(b.toNat:Int))↔97≤b.toNat:=by omega
 have e2:((b.toNat:Int)≤(122:Int))↔b.toNat≤122:=by omega
 have e3:((b.toNat:Int)=(95:Int))↔b.toNat=95:=by omega
 simp only [e1,e2,e3]
 by_cases h1:97≤b.toNat<;>by_cases h2:b.toNat≤122<;>by_cases h3:b.toNat=95<;>simp [h1,h2,h3]
theorem digit_prog (b:UInt8):M102 (b.toNat:Int)=some (digitP' b):=by
 show T102 Ops.std _ some=_
 unfold T102 digitP'
 simp only [qaz,qao,qaa]
 have e1:((48:Int)≤(b.toNat:Int))↔48≤b.toNat:=by omega
 have e2:((b.toNat:Int)≤(57:Int))↔b.toNat≤57:=by omega
 simp only [e1,e2]
 by_cases h1:48≤b.toNat<;>by_cases h2:b.toNat≤57<;>simp [h1,h2]
theorem qco (b:UInt8):M60 (b.toNat:Int)=some (lowerP b):=by
 show T60 Ops.std _ some=_
 unfold T60 lowerP
 simp only [qaz,qao,qaa]
 have e1:((97:Int)≤(b.toNat:Int))↔97≤b.toNat:=by omega
 have e2:((b.toNat:Int)≤(122:Int))↔b.toNat≤122:=by omega
 have e3:((b.toNat:Int)=(95:Int))↔b.toNat=95:=by omega
 simp only [e1,e2,e3]
 by_cases h1:97≤b.toNat<;>by_cases h2:b.toNat≤122<;>by_cases h3:b.toNat=95<;>simp [h1,h2,h3]
theorem qbk (b:UInt8):M59 (b.toNat:Int)=some (digitP' b):=by
 show T59 Ops.std _ some=_
 unfold T59 digitP'
 simp only [qaz,qao,qaa]
 have e1:((48:Int)≤(b.toNat:Int))↔48≤b.toNat:=by omega
 have e2:((b.toNat:Int)≤(57:Int))↔b.toNat≤57:=by omega
 simp only [e1,e2]
 by_cases h1:48≤b.toNat<;>by_cases h2:b.toNat≤57<;>simp [h1,h2]
theorem within_prog (b:UInt8):M106 (b.toNat:Int)=some (wordP b):=by
 show T106 Ops.std M105 M102 _ some=_
 unfold T106 wordP
 rw [qec,digit_prog]
 simp only [ob_s]
 cases lowerP b<;>rfl
theorem run_prog {p:UInt8→Bool} {c:Int→Option Bool} (hc:∀ b:UInt8,c (b.toNat:Int)=some (p b)) (s:List UInt8) (hs:s.length<900000):F103 c s=some (s.takeWhile p):=by
 have h:∀ (t i n:Nat),i+t=s.length→t<n→R103 c s n (.l0 i)=some (s.take i++(s.drop i).takeWhile p):=by
  intro t
  induction t with
  | zero=>
    intro i n hi hn
    cases n with
    | zero=>omega
    | succ n=>
      show T103 Ops.std c s _ some _=_
      unfold T103
      simp only [qai,qak,qaa,qaf]
      rw [if_neg (by omega),if_pos (by omega),List.drop_eq_nil_of_le (show s.length≤i by omega)]
      simp
  | succ t ih=>
    intro i n hi hn
    cases n with
    | zero=>omega
    | succ n=>
      have hlt:i<s.length:=by omega
      show T103 Ops.std c s _ some _=_
      unfold T103
      have hw:IntKind.wrap IntKind.i64 ((i:Int)+1)=((i+1:Nat):Int):=qag (by omega)
      simp only [qai,qak,qaa,qaf]
      rw [if_pos (by omega),if_pos (by omega),hc,ob_s,qea hlt]
      cases hp:p (s.getD i 0) with
      | true=>
        simp only [cond_true]
        rw [hw,ih (i+1) n (by omega) (by omega),List.takeWhile_cons_of_pos hp]
        have:s.take (i+1)=s.take i++[s.getD i 0]:=by
         rw [List.take_add_one]
         simp [List.getD_eq_getElem?_getD,List.getElem?_eq_getElem hlt]
        rw [this]
        simp
      | false=>
        simp only [cond_false]
        rw [if_pos (by omega),List.takeWhile_cons_of_neg (by rw [hp];decide)]
        simp
 show T103 Ops.std c s _ some none=_
 unfold T103
 have:=h s.length 0 1000000 (by omega) (by omega)
 rw [List.take_zero,List.drop_zero,List.nil_append] at this
 exact this
theorem runW_prog (s:List UInt8) (hs:s.length<900000):M103 s=some (s.takeWhile wordP):=run_prog within_prog s hs
theorem qbz {α:Type} (p:α→Bool):∀ l:List α,l.takeWhile p=l↔l.all p=true
 | []=>by simp
 | a::l=>by
   rw [List.takeWhile_cons,List.all_cons]
   cases hp:p a with
   | true=>simp [qbz p l]
   | false=>simp
theorem qc8 {b:UInt8} (h:lowerP b=true):wordP b=true:=by unfold wordP;rw [h];rfl
theorem isWord_prog (s:List UInt8):M95 s=some (isWordP s):=by
 unfold M95 F95 T95
 cases s with
 | nil=>rfl
 | cons b r=>
   simp only [qaz,qak,qaa,isWordP,List.length_cons]
   have e1:(!(b::r) == ([]:List UInt8))=true:=rfl
   rw [e1,qdg]
   by_cases h8:r.length+1≤8
   ·rw [if_pos (by omega),if_pos (by omega),show (b::r).getD (Int.toNat 0) 0=b from rfl,qec,ob_s]
    cases hl:lowerP b with
    | false=>simp
    | true=>
      simp only [cond_true]
      rw [runW_prog _ (by simp;omega),ob_s]
      have hb:=qc8 hl
      simp only [Bool.true_and,h8,decide_true,Bool.and_true,Option.some.injEq]
      rw [Bool.eq_iff_iff,beq_iff_eq,qbz,List.all_cons,hb,Bool.true_and]
   ·rw [if_neg (by omega)]
    simp [h8]
theorem qb6 (s:List UInt8) (hs:s.length≤9223372036854775807):∀ (t i n:Nat),i+t=s.length→t<n→
  R79 M60 M59 s n (.l0 i)=some ((bif i == 0 then (match s with | []=>true | b::r=>lowerP b && r.all wordP) else (s.drop i).all wordP) && (decide (1≤s.length) && decide (s.length≤8)))
 | t,i,0,hi,hn=>by omega
 | 0,i,n+1,hi,hn=>by
   show T79 Ops.std _ _ s _ some _=_
   unfold T79
   simp only [qai,qaz,qaa]
   rw [if_neg (by omega),List.drop_eq_nil_of_le (show s.length≤i by omega)]
   cases s with
   | nil=>simp
   | cons b r=>
     have:(i == 0)=false:=by simp at hi;simp;omega
     rw [this,if_pos (by simp;omega)]
     simp
     constructor<;>intro h<;>omega
 | t+1,i,n+1,hi,hn=>by
   have hlt:i<s.length:=by omega
   have ih:=qb6 s hs t (i+1) n (by omega) (by omega)
   have hw:IntKind.wrap IntKind.i64 ((i:Int)+1)=((i+1:Nat):Int):=qag (by omega)
   have hi1:(i+1 == 0)=false:=rfl
   rw [hi1,qdh] at ih
   show T79 Ops.std _ _ s _ some _=_
   unfold T79
   simp only [qai,qaz,qao,qak,qaa,qaf]
   rw [if_pos (by omega),if_pos (by omega),qco,ob_s,hw]
   have hd:s.drop i=s.getD i 0::s.drop (i+1):=qea hlt
   by_cases h0:i=0
   ·subst h0
    cases s with
    | nil=>simp at hlt
    | cons b r=>
      simp only [List.getD_cons_zero,beq_self_eq_true,cond_true]
      cases hb:lowerP b with
      | false=>simp
      | true=>
        simp only [Bool.not_true,cond_false,Bool.true_and]
        exact ih
   ·have hb0:(i == 0)=false:=by simp [h0]
    rw [hb0,qdh,hd,List.all_cons]
    unfold wordP
    cases hb:lowerP (s.getD i 0) with
    | true=>
      simp only [Bool.not_true,cond_false,Bool.true_or,Bool.true_and]
      exact ih
    | false=>
      simp only [Bool.not_false,cond_true,Bool.false_or]
      rw [if_neg (by omega),if_pos (by omega),qbk,ob_s]
      cases hdg:digitP' (s.getD i 0) with
      | true=>simp only [Bool.not_true,cond_false,Bool.true_and];exact ih
      | false=>simp
theorem qex (s:List UInt8) (hs:s.length<900000):M79 s=some (isWordP s):=by
 show T79 Ops.std M60 M59 s (R79 M60 M59 s _) some none=_
 unfold T79
 refine (qb6 s (by omega) s.length 0 _ (by omega) (by omega)).trans ?_
 cases s with
 | nil=>rfl
 | cons b r=>simp [isWordP]
def okL (L:Nat) (l:List (List UInt8)):Prop:=∀ w∈l,w.length≤L
theorem okL.app {L:Nat} {l:List (List UInt8)} {w:List UInt8} (h:okL L l) (hw:w.length≤L):okL L (l++[w]):=fun x hx=>by
 rcases List.mem_append.1 hx with hx | hx
 ·exact h x hx
 ·simp only [List.mem_singleton] at hx;rw [hx];exact hw
theorem okL.get {L:Nat} {l:List (List UInt8)} (h:okL L l) (k:Nat):(l.getD k []).length≤L:=by
 rw [List.getD_eq_getElem?_getD]
 by_cases hk:k<l.length
 ·rw [List.getElem?_eq_getElem hk];exact h _ (List.getElem_mem hk)
 ·rw [List.getElem?_eq_none (by omega)];simp
abbrev Tok:=Int×List UInt8×Int×Int
def blankP (b:UInt8):Bool:=decide (b.toNat=32) || (decide (b.toNat=9) || decide (b.toNat=10))
def letterP (b:UInt8):Bool:=decide (b.toNat=88) || (decide (b.toNat=70) || (decide (b.toNat=71) || (decide (b.toNat=85) || decide (b.toNat=82))))
def valW (w:List UInt8):Int:=w.foldl (fun n b=>10*n+((b.toNat:Int)-48)) 0
def twos:List (List UInt8):=[[60,61],[62,61],[61,61],[33,61],[38,38],[124,124],[45,62]]
def ones:List UInt8:=[40,41,91,93,43,45,42,60,62,33,64,59,61]
def signS (s:List UInt8):List UInt8:=
 match twos.find? (fun p=>decide (1<s.length) && (s.take 2 == p)) with
 | some p=>p
 | none=>match ones.find? (fun b=>s.take 1 == [b]) with
   | some b=>s.take 1
   | none=>[]
def tokS (s:List UInt8):Option (Int×List UInt8×Int):=
 match s with
 | []=>none
 | b::r=>if digitP' b then (if (s.takeWhile digitP').length≤3 then some (1,s.takeWhile digitP',valW (s.takeWhile digitP')) else none)
   else if lowerP b then (if (s.takeWhile wordP).length≤8 then some (2,s.takeWhile wordP,0) else none)
   else if letterP b then some (3,[b],0)
   else if signS s=[] then none else some (4,signS s,0)
def lexGo:Nat→List UInt8→Nat→List Tok→Int×Int×List Tok
 | 0,_,at_,_=>(2,(at_:Int),[])
 | _+1,[],at_,out=>(0,0,out++[((5,[],0,(at_:Int)):Tok)])
 | f+1,b::r,at_,out=>if blankP b then lexGo f r (at_+1) out else
   match tokS (b::r) with
   | none=>(2,(at_:Int),[])
   | some (k,w,n)=>lexGo f ((b::r).drop w.length) (at_+w.length) (out++[((k,w,n,(at_:Int)):Tok)])
def lexS (s:List UInt8):Int×Int×List Tok:=if 60000<s.length then (14,0,[]) else lexGo (s.length+1) s 0 []
noncomputable abbrev signR (s:List UInt8):=R61 s
theorem qey (s:List UInt8) (n:Nat):List.drop 0 (List.take n s)=s.take n:=by simp
def signTail (s:List UInt8):List UInt8:=match ones.find? (fun b=>s.take 1 == [b]) with
 | some b=>s.take 1
 | none=>[]
theorem ones_get (j:Nat) (hj:j<13):List.drop j (List.take (j+1) [40,41,91,93,43,45,42,60,62,33,64,59,61])=[ones.getD j 0]:=by
 match j,hj with
 | 0,_ | 1,_ | 2,_ | 3,_ | 4,_ | 5,_ | 6,_ | 7,_ | 8,_ | 9,_ | 10,_ | 11,_ | 12,_=>rfl
theorem sign_one (s:List UInt8) (hs:0<s.length):∀ (t j n:Nat),j+t=13→t<n→signR s n (.l1 j)=some (match (ones.drop j).find? (fun b=>s.take 1 == [b]) with
  | some b=>s.take 1
  | none=>[])
 | t,j,0,hj,hn=>by omega
 | 0,j,n+1,hj,hn=>by
   show T61 Ops.std s _ some _=_
   unfold T61
   simp only [qai,qaa,List.length_cons,List.length_nil]
   rw [if_neg (by omega),List.drop_eq_nil_of_le (by simp [ones];omega)]
   rfl
 | t+1,j,n+1,hj,hn=>by
   have ih:=sign_one s hs t (j+1) n (by omega) (by omega)
   show T61 Ops.std s _ some _=_
   unfold T61
   have hw:IntKind.wrap IntKind.i64 ((j:Int)+1)=((j+1:Nat):Int):=qag (by omega)
   simp only [qai,qak,qaz,qaa,List.length_cons,List.length_nil,hw,qaf,qey,ite_dec]
   rw [if_pos (by omega),if_pos (by omega),if_pos (by omega),if_pos (by omega:(0:Int)≤j),decide_eq_true (by omega:(j:Int)≤((j+1:Nat):Int)),qdg,ones_get j (by omega)]
   have hd:ones.drop j=ones.getD j 0::ones.drop (j+1):=qbj 0 (by simp [ones];omega)
   rw [hd,List.find?_cons]
   have e1:List.take (Int.toNat 1) s=s.take 1:=rfl
   rw [e1]
   cases hb:(s.take 1 == [ones.getD j 0]) with
   | true=>
     simp only [cond_true]
     rw [if_pos (by omega)]
   | false=>
     simp only [cond_false]
     exact ih
theorem sign_two (s:List UInt8) (hs:0<s.length):∀ (t j n:Nat),j+t=7→t+20<n→signR s n (.l0 j)=some (match (twos.drop j).find? (fun p=>decide (1<s.length) && (s.take 2 == p)) with
  | some p=>p
  | none=>signTail s)
 | t,j,0,hj,hn=>by omega
 | 0,j,n+1,hj,hn=>by
   have h1:=sign_one s hs 13 0 n (by omega) (by omega)
   show T61 Ops.std s _ some _=_
   unfold T61
   simp only [qai,qaa]
   rw [if_neg (by omega),List.drop_eq_nil_of_le (by simp [twos];omega)]
   exact h1
 | t+1,j,n+1,hj,hn=>by
   have ih:=sign_two s hs t (j+1) n (by omega) (by omega)
   show T61 Ops.std s _ some _=_
   unfold T61
   have hw:IntKind.wrap IntKind.i64 ((j:Int)+1)=((j+1:Nat):Int):=qag (by omega)
   have hd:twos.drop j=twos.getD j []::twos.drop (j+1):=qbj [] (by simp [twos];omega)
   have hg:([[60,61],[62,61],[61,61],[33,61],[38,38],[124,124],[45,62],[],[]]:List (List UInt8)).getD j []=twos.getD j []:=by
    have hj7:j<7:=by omega
    clear hj hd hw ih hn
    match j,hj7 with
    | 0,_ | 1,_ | 2,_ | 3,_ | 4,_ | 5,_ | 6,_=>rfl
   simp only [qai,qak,qaa,hw,qaf,qey,hg]
   rw [if_pos (by omega),hd,List.find?_cons]
   by_cases h1:1<s.length
   ·rw [if_pos (by omega),if_pos (by omega),if_pos (by omega),if_pos (by omega)]
    have e1:List.take (Int.toNat 2) s=s.take 2:=rfl
    rw [e1]
    simp only [h1,decide_true,Bool.true_and]
    cases hb:(s.take 2 == twos.getD j []) with
    | true=>simp only [cond_true]
    | false=>
      simp only [cond_false]
      simp only [h1,decide_true,Bool.true_and] at ih
      exact ih
   ·rw [if_neg (by omega)]
    simp only [h1,decide_false,Bool.false_and]
    simp only [h1,decide_false,Bool.false_and] at ih
    exact ih
theorem sign_ref (s:List UInt8) (hs:0<s.length):M61 s=some (signS s):=by
 show T61 Ops.std s (signR s 1000000) some none=_
 unfold T61
 have:=sign_two s hs 7 0 1000000 (by omega) (by omega)
 exact this
theorem signS_len (s:List UInt8):(signS s).length≤2∧(signS s).length≤s.length∧s.take (signS s).length=signS s:=by
 unfold signS
 cases h:twos.find? (fun p=>decide (1<s.length) && (s.take 2 == p)) with
 | some p=>
   have h1:=List.find?_some h
   simp only [Bool.and_eq_true,decide_eq_true_eq,beq_iff_eq] at h1
   simp only []
   rw [←h1.2,List.length_take,Nat.min_eq_left (by omega)]
   exact ⟨by omega,by omega,rfl⟩
 | none=>
   simp only []
   cases h2:ones.find? (fun b=>s.take 1 == [b]) with
   | some b=>
     simp only [List.length_take]
     refine ⟨by omega,by omega,?_⟩
     cases s<;>simp
   | none=>simp
theorem qed {p:UInt8→Bool}:∀ (l:List UInt8),(l.takeWhile p).length≤l.length∧l.take (l.takeWhile p).length=l.takeWhile p
 | []=>by simp
 | a::l=>by
   rw [List.takeWhile_cons]
   cases hp:p a with
   | true=>have:=qed (p:=p) l;simp [this]
   | false=>simp
theorem tw_lt {p:UInt8→Bool}:∀ (l:List UInt8) (n:Nat),n<(l.takeWhile p).length→p (l.getD n 0)=true∧(l.takeWhile p).getD n 0=l.getD n 0
 | [],n,h=>by simp at h
 | a::l,n,h=>by
   rw [List.takeWhile_cons] at h ⊢
   cases hp:p a with
   | false=>rw [hp] at h;simp at h
   | true=>
     rw [hp] at h
     cases n with
     | zero=>simp [hp]
     | succ n=>
       simp only [if_true,List.length_cons] at h ⊢
       have:=tw_lt (p:=p) l n (by omega)
       simpa using this
theorem tw_end {p:UInt8→Bool}:∀ (l:List UInt8),(l.takeWhile p).length<l.length→p (l.getD (l.takeWhile p).length 0)=false
 | [],h=>by simp at h
 | a::l,h=>by
   rw [List.takeWhile_cons] at h ⊢
   cases hp:p a with
   | false=>simp [hp]
   | true=>
     rw [hp] at h
     simp only [if_true,List.length_cons] at h ⊢
     have:=tw_end (p:=p) l (by omega)
     simpa using this
theorem qcp (s:List UInt8) (a n:Nat):s.getD (a+n) 0=(s.drop a).getD n 0:=by
 simp [List.getD_eq_getElem?_getD,List.getElem?_drop]
theorem valW_snoc (w:List UInt8) (b:UInt8):valW (w++[b])=10*valW w+((b.toNat:Int)-48):=by simp [valW,List.foldl_append]
theorem take_snoc (w:List UInt8) (n:Nat) (h:n<w.length):w.take (n+1)=w.take n++[w.getD n 0]:=by
 rw [List.take_add_one]
 simp [List.getD_eq_getElem?_getD,List.getElem?_eq_getElem h]
theorem wrap8 {n:Int} (h1:0≤n) (h2:n≤255):IntKind.wrap IntKind.u8 n=n:=by
 have e1:(2:Int) ^ IntKind.u8.bits=256:=by decide
 have e3:IntKind.u8.signed=false:=rfl
 simp only [IntKind.wrap,e1,e3,Bool.false_and,decide_eq_true_eq]
 simp
 omega
theorem digit_val {b:UInt8} (h:digitP' b=true):48≤b.toNat∧b.toNat≤57:=by
 unfold digitP' at h
 simpa using h
theorem qez:∀ (n:Nat) (w:List UInt8),w.length=n→(∀ b∈w,digitP' b=true)→0≤valW w∧valW w<10 ^ n:=by
 intro n
 induction n with
 | zero=>intro w hw _;cases w with
   | nil=>simp [valW]
   | cons=>simp at hw
 | succ n ih=>
   intro w hw hd
   have hne:w≠[]:=by intro h;rw [h] at hw;simp at hw
   obtain ⟨l,b,rfl⟩:∃ l b,w=l++[b]:=⟨w.dropLast,w.getLast hne,(List.dropLast_concat_getLast hne).symm⟩
   have h1:=ih l (by simpa using hw) fun b hb=>hd b (by simp [hb])
   have h2:=digit_val (hd b (by simp))
   rw [valW_snoc]
   have h3:(10:Int) ^ (n+1)=10*10 ^ n:=by rw [Int.pow_succ];omega
   rw [h3]
   generalize (10:Int) ^ n=q at h1 ⊢
   omega
theorem tw_all {p:UInt8→Bool}:∀ (l:List UInt8),∀ b∈l.takeWhile p,p b=true
 | [],b,h=>by simp at h
 | a::l,b,h=>by
   rw [List.takeWhile_cons] at h
   cases hp:p a with
   | false=>rw [hp] at h;simp at h
   | true=>
     rw [hp] at h
     simp only [if_true,List.mem_cons] at h
     rcases h with rfl | h
     ·exact hp
     ·exact tw_all (p:=p) l b h
noncomputable abbrev lexR (s:List UInt8):=R23 M59 M60 M61 s
section
variable (s:List UInt8) (hs:s.length≤60000)
theorem lexR_1032 (hs:s.length≤60000) (n a m:Nat) (ham:a+m≤s.length) (out:List Tok) (ho:out.length<100000) (k v:Int) (x:Int) :
  lexR s (n+1) (.l1032 a m out k v x)=lexR s n (.l0 ((a+m:Nat):Int) (out++[(k,(s.drop a).take m,v,x)])):=by
 show T23 Ops.std _ _ _ s _ some _=_
 unfold T23
 have hw:IntKind.wrap IntKind.i64 ((a:Int)+(m:Int))=((a+m:Nat):Int):=by rw [wrap64 (by omega) (by omega)];omega
 simp only [qak,qaz,qay,qaa,hw,qaf,ite_dec,mt,List.length_cons,List.length_nil]
 rw [if_pos (by omega),if_pos (by omega:(0:Int)≤a),decide_eq_true (by omega:(a:Int)≤((a+m:Nat):Int)),qdg,if_pos (by omega)]
 rw [show List.drop a (List.take (a+m) s)=(s.drop a).take m by rw [List.drop_take];congr 1;omega]
theorem lexR_digits (hs:s.length≤60000) (a:Nat) (ha:a<s.length) (out:List Tok) (x:Int) (w:List UInt8) (hw:(s.drop a).takeWhile digitP'=w):∀ (t i n:Nat) (v:Int),i+t=w.length→2*t<n→(i≤3→v=valW (w.take i))→(3<i→True)→
  (w.length≤3→∃ n',n'+2*t+1=n∧lexR s n (.l1 a i out v x)=lexR s n' (.l1032 a w.length out 1 (valW w) x))∧(3<w.length→lexR s n (.l1 a i out v x)=some (2,(a:Int),[])):=by
 intro t
 have hwl:w.length≤(s.drop a).length:=by rw [←hw];exact (qed _).1
 rw [List.length_drop] at hwl
 induction t with
 | zero=>
   intro i n v hi hn hv _
   obtain ⟨m,rfl⟩:∃ m,n=m+1:=⟨n-1,by omega⟩
   have hstep:lexR s (m+1) (.l1 a i out v x)=if (3:Int)<i then some (2,(a:Int),[]) else lexR s m (.l1032 a i out 1 v x):=by
    show T23 Ops.std _ _ _ s _ some _=_
    unfold T23
    have hwi:IntKind.wrap IntKind.i64 ((a:Int)+(i:Int))=((a+i:Nat):Int):=by rw [wrap64 (by omega) (by omega)];omega
    simp only [qai,qak,qaa,hwi,qaf,mt]
    by_cases h1:a+i<s.length
    ·rw [if_pos (by omega),if_pos (by omega),qbk,ob_s,qcp]
     have hend:=tw_end (p:=digitP') (s.drop a) (by rw [hw,List.length_drop];omega)
     rw [hw,show w.length=i by omega] at hend
     rw [hend,qdh]
    ·rw [if_neg (by omega)]
   rw [hstep]
   refine ⟨fun h3=>⟨m,by omega,?_⟩,fun h3=>?_⟩
   ·rw [if_neg (by omega),hv (by omega),show i=w.length by omega,List.take_length]
   ·rw [if_pos (by omega)]
 | succ t ih=>
   intro i n v hi hn hv _
   obtain ⟨m,rfl⟩:∃ m,n=m+2:=⟨n-2,by omega⟩
   have hlt:=tw_lt (p:=digitP') (s.drop a) i (by rw [hw];omega)
   rw [hw] at hlt
   have hdv:=digit_val hlt.1
   have hwi:IntKind.wrap IntKind.i64 ((a:Int)+(i:Int))=((a+i:Nat):Int):=by rw [wrap64 (by omega) (by omega)];omega
   have e20:∀ v',lexR s (m+1) (.l1020 a i out v' x)=lexR s m (.l1 a ((i+1:Nat):Int) out v' x):=fun v'=>by
    show T23 Ops.std _ _ _ s _ some _=_
    unfold T23
    show lexR s m (.l1 a (IntKind.wrap IntKind.i64 ((i:Int)+1)) out v' x)=_
    rw [show IntKind.wrap IntKind.i64 ((i:Int)+1)=((i+1:Nat):Int) from qag (by omega)]
   have hstep:lexR s (m+2) (.l1 a i out v x)=lexR s m (.l1 a ((i+1:Nat):Int) out (if (i:Int)<3 then 10*v+((((s.drop a).getD i 0).toNat:Int)-48) else v) x):=by
    show T23 Ops.std _ _ _ s _ some _=_
    unfold T23
    simp only [qai,qak,qaa,hwi,qaf,mt]
    rw [if_pos (by omega),if_pos (by omega),qbk,ob_s,qcp,hlt.1,qdg]
    by_cases h3:(i:Int)<3
    ·have hb:0≤v∧v<1000:=by
      have:=qez i (w.take i) (by rw [List.length_take];omega) fun b hb=>by
       have:=List.mem_of_mem_take hb
       rw [←hw] at this
       exact tw_all _ b this
      rw [←hv (by omega)] at this
      have hi3:i=0∨i=1∨i=2:=by omega
      rcases hi3 with rfl | rfl | rfl<;>simp at this<;>omega
     rw [if_pos h3,if_pos (by omega),if_pos h3,wrap8 (by omega) (by omega),wrap64 (n:=((((s.drop a).getD i 0).toNat:Int)-48)) (by omega) (by omega),wrap64 (n:=10*v) (by omega) (by omega),wrap64 (by omega) (by omega)]
     exact e20 _
    ·rw [if_neg h3,if_neg h3]
     exact e20 v
   rw [hstep]
   obtain ⟨g1,g2⟩:=ih (i+1) m (if (i:Int)<3 then 10*v+((((s.drop a).getD i 0).toNat:Int)-48) else v) (by omega) (by omega) (fun h3=>by
    rw [if_pos (by omega),hv (by omega),take_snoc w i (by omega),valW_snoc,hlt.2]) (fun _=>trivial)
   refine ⟨fun h3=>?_,g2⟩
   obtain ⟨n',h4,h5⟩:=g1 h3
   exact ⟨n',by omega,h5⟩
theorem lexR_words (hs:s.length≤60000) (a:Nat) (ha:a<s.length) (out:List Tok) (x:Int) (w:List UInt8) (hw:(s.drop a).takeWhile wordP=w):∀ (t i n:Nat),i+t=w.length→2*t+2<n→
  ∃ n',n'+2*t+2=n∧lexR s n (.l2 a i out x)=if 8<w.length then some (2,(a:Int),[]) else lexR s n' (.l1032 a w.length out 2 0 x):=by
 intro t
 have hwl:w.length≤(s.drop a).length:=by rw [←hw];exact (qed _).1
 rw [List.length_drop] at hwl
 induction t with
 | zero=>
   intro i n hi hn
   obtain ⟨m,rfl⟩:∃ m,n=m+2:=⟨n-2,by omega⟩
   refine ⟨m,by omega,?_⟩
   have e27:lexR s (m+1) (.l1027 a i out x)=if 8<w.length then some (2,(a:Int),[]) else lexR s m (.l1032 a w.length out 2 0 x):=by
    show T23 Ops.std _ _ _ s _ some _=_
    unfold T23
    simp only [qai,qaa,mt]
    rw [show i=w.length by omega]
    by_cases h8:8<w.length
    ·rw [if_pos (by omega),if_pos h8]
    ·rw [if_neg (by omega),if_neg h8]
   rw [←e27]
   show T23 Ops.std _ _ _ s _ some _=_
   unfold T23
   have hwi:IntKind.wrap IntKind.i64 ((a:Int)+(i:Int))=((a+i:Nat):Int):=by rw [wrap64 (by omega) (by omega)];omega
   simp only [qai,qak,qaa,hwi,qaf,mt]
   by_cases h1:a+i<s.length
   ·rw [if_pos (by omega),if_pos (by omega),qco,ob_s,qcp]
    have hend:=tw_end (p:=wordP) (s.drop a) (by rw [hw,List.length_drop];omega)
    rw [hw,show w.length=i by omega] at hend
    unfold wordP at hend
    simp only [Bool.or_eq_false_iff] at hend
    rw [hend.1,qdh,if_pos (by omega),qbk,ob_s,hend.2,qdh]
   ·rw [if_neg (by omega)]
 | succ t ih=>
   intro i n hi hn
   obtain ⟨m,rfl⟩:∃ m,n=m+2:=⟨n-2,by omega⟩
   have hlt:=tw_lt (p:=wordP) (s.drop a) i (by rw [hw];omega)
   obtain ⟨n',h4,h5⟩:=ih (i+1) m (by omega) (by omega)
   refine ⟨n',by omega,?_⟩
   rw [←h5]
   have e26:lexR s (m+1) (.l1026 a i out x)=lexR s m (.l2 a ((i+1:Nat):Int) out x):=by
    show T23 Ops.std _ _ _ s _ some _=_
    unfold T23
    show lexR s m (.l2 a (IntKind.wrap IntKind.i64 ((i:Int)+1)) out x)=_
    rw [show IntKind.wrap IntKind.i64 ((i:Int)+1)=((i+1:Nat):Int) from qag (by omega)]
   rw [←e26]
   show T23 Ops.std _ _ _ s _ some _=_
   unfold T23
   have hwi:IntKind.wrap IntKind.i64 ((a:Int)+(i:Int))=((a+i:Nat):Int):=by rw [wrap64 (by omega) (by omega)];omega
   simp only [qai,qak,qaa,hwi,qaf,mt]
   rw [if_pos (by omega),if_pos (by omega),qco,ob_s,qcp]
   have hp:=hlt.1
   unfold wordP at hp
   cases hl:lowerP ((s.drop a).getD i 0) with
   | true=>rw [qdg]
   | false=>
     rw [hl,Bool.false_or] at hp
     rw [qdh,if_pos (by omega),qbk,ob_s,hp,qdg]
end
theorem qee {s:List UInt8} {k n:Int} {w:List UInt8} (h:tokS s=some (k,w,n)):0<w.length∧w.length≤s.length∧s.take w.length=w∧k≠0∧k≠5:=by
 cases s with
 | nil=>simp [tokS] at h
 | cons b r=>
   simp only [tokS] at h
   split at h
   ·rename_i hd
    split at h
    ·simp only [Option.some.injEq,Prod.mk.injEq] at h
     obtain ⟨rfl,rfl,rfl⟩:=h
     have h1:=qed (p:=digitP') (b::r)
     refine ⟨?_,h1.1,h1.2,by decide,by decide⟩
     rw [List.takeWhile_cons,hd];simp
    ·cases h
   ·split at h
    ·rename_i hd hl
     split at h
     ·simp only [Option.some.injEq,Prod.mk.injEq] at h
      obtain ⟨rfl,rfl,rfl⟩:=h
      have h1:=qed (p:=wordP) (b::r)
      refine ⟨?_,h1.1,h1.2,by decide,by decide⟩
      rw [List.takeWhile_cons,qc8 hl];simp
     ·cases h
    ·split at h
     ·simp only [Option.some.injEq,Prod.mk.injEq] at h
      obtain ⟨rfl,rfl,rfl⟩:=h
      exact ⟨by simp,by simp,by simp,by decide,by decide⟩
     ·split at h
      ·cases h
      ·rename_i hne
       simp only [Option.some.injEq,Prod.mk.injEq] at h
       obtain ⟨rfl,rfl,rfl⟩:=h
       have h1:=signS_len (b::r)
       refine ⟨?_,h1.2.1,h1.2.2,by decide,by decide⟩
       cases hq:signS (b::r) with
       | nil=>exact absurd hq hne
       | cons=>simp
theorem lexR_go (s:List UInt8) (hs:s.length≤60000):∀ (f a n:Nat) (out:List Tok),s.length-a<f→a≤s.length→8*(s.length-a)+8≤n→out.length≤a→
  lexR s n (.l0 a out)=some (lexGo f (s.drop a) a out)
 | 0,a,n,out,hf,ha,hn,ho=>by omega
 | f+1,a,n,out,hf,ha,hn,ho=>by
   obtain ⟨m,rfl⟩:∃ m,n=m+1:=⟨n-1,by omega⟩
   have ih:=lexR_go s hs f
   by_cases hend:a=s.length
   ·rw [List.drop_eq_nil_of_le (by omega)]
    show T23 Ops.std _ _ _ s _ some _=_
    unfold T23
    simp only [qai,qay,qaa,mt,List.length_cons,List.length_nil]
    rw [if_neg (by omega),if_pos (by omega)]
    rfl
   ·have halt:a<s.length:=by omega
    have hd:s.drop a=s.getD a 0::s.drop (a+1):=qea halt
    have hfin:∀ (k v:Int) (w:List UInt8) (n':Nat),tokS (s.drop a)=some (k,w,v)→8*(s.length-(a+w.length))+9≤n'→lexR s n' (.l1032 a w.length out k v a)=some (lexGo f (s.drop (a+w.length)) (a+w.length) (out++[(k,w,v,(a:Int))])):=fun k v w n' ht hn'=>by
     obtain ⟨h1,h2,h3,_,_⟩:=qee ht
     rw [List.length_drop] at h2
     obtain ⟨n2,rfl⟩:∃ n2,n'=n2+1:=⟨n'-1,by omega⟩
     rw [lexR_1032 s hs n2 a w.length (by omega) out (by omega),h3]
     exact ih (a+w.length) n2 _ (by omega) (by omega) (by omega) (by simp;omega)
    have hgo:∀ (k v:Int) (w:List UInt8),blankP (s.getD a 0)=false→tokS (s.drop a)=some (k,w,v)→lexGo (f+1) (s.drop a) a out=lexGo f (s.drop (a+w.length)) (a+w.length) (out++[(k,w,v,(a:Int))]):=fun k v w hb ht=>by
     have h2:=ht
     rw [hd] at ht ⊢
     simp only [lexGo,hb,ht,Bool.false_eq_true,if_false]
     rw [←hd,List.drop_drop]
    have hgo0:blankP (s.getD a 0)=false→tokS (s.drop a)=none→lexGo (f+1) (s.drop a) a out=(2,(a:Int),[]):=fun hb ht=>by
     rw [hd] at ht ⊢
     simp only [lexGo,hb,ht,Bool.false_eq_true,if_false]
    have hgob:blankP (s.getD a 0)=true→lexGo (f+1) (s.drop a) a out=lexGo f (s.drop (a+1)) (a+1) out:=fun hb=>by
     rw [hd]
     simp only [lexGo,hb,if_true]
    have hblank:blankP (s.getD a 0)=true→lexR s m (.l0 ((a+1:Nat):Int) out)=some (lexGo (f+1) (s.drop a) a out):=fun hb=>by
     rw [hgob hb]
     exact ih (a+1) m out (by omega) (by omega) (by omega) (by omega)
    have htk:tokS (s.drop a)=(if digitP' (s.getD a 0) then (if ((s.drop a).takeWhile digitP').length≤3 then some (1,(s.drop a).takeWhile digitP',valW ((s.drop a).takeWhile digitP')) else none)
      else if lowerP (s.getD a 0) then (if ((s.drop a).takeWhile wordP).length≤8 then some (2,(s.drop a).takeWhile wordP,0) else none)
      else if letterP (s.getD a 0) then some (3,[s.getD a 0],0)
      else if signS (s.drop a)=[] then none else some (4,signS (s.drop a),0)):=by rw [hd];rfl
    generalize hb0:s.getD a 0=b at *
    show T23 Ops.std _ _ _ s _ some _=_
    unfold T23
    have hw1:IntKind.wrap IntKind.i64 ((a:Int)+1)=((a+1:Nat):Int):=qag (by omega)
    simp only [qai,qao,qak,qaa,qaf,hb0,hw1]
    rw [if_pos (by omega),if_pos (by omega)]
    by_cases h32:b.toNat=32
    ·rw [if_pos (by omega)];exact hblank (by simp [blankP,h32])
    ·rw [if_neg (by omega)]
     by_cases h9:b.toNat=9
     ·rw [if_pos (by omega)];exact hblank (by simp [blankP,h9])
     ·rw [if_neg (by omega)]
      by_cases h10:b.toNat=10
      ·rw [if_pos (by omega)];exact hblank (by simp [blankP,h10])
      ·rw [if_neg (by omega),qbk,ob_s]
       have hnb:blankP b=false:=by simp [blankP,h32,h9,h10]
       cases hdg:digitP' b with
       | true=>
         rw [qdg]
         rw [hdg,if_pos rfl] at htk
         have hwl:=qed (p:=digitP') (s.drop a)
         rw [List.length_drop] at hwl
         obtain ⟨g1,g2⟩:=lexR_digits s hs a halt out (a:Int) _ rfl ((s.drop a).takeWhile digitP').length 0 m 0 (by omega) (by omega) (fun _=>by simp [valW]) (fun _=>trivial)
         by_cases h3:((s.drop a).takeWhile digitP').length≤3
         ·rw [if_pos h3] at htk
          obtain ⟨n',g3,g4⟩:=g1 h3
          have hp:=(qee htk).1
          refine Eq.trans g4 ?_
          clear g1 g2
          have hq:=hfin 1 _ _ n' htk
          generalize ((s.drop a).takeWhile digitP')=w at *
          rw [hq (by omega),hgo 1 _ _ hnb htk]
         ·rw [if_neg h3] at htk
          refine Eq.trans (g2 (by omega)) ?_
          rw [hgo0 hnb htk]
       | false=>
         rw [qdh,qco,ob_s]
         rw [hdg] at htk
         simp only [Bool.false_eq_true,if_false] at htk
         cases hlw:lowerP b with
         | true=>
           rw [qdg]
           rw [hlw,if_pos rfl] at htk
           have hwl:=qed (p:=wordP) (s.drop a)
           rw [List.length_drop] at hwl
           obtain ⟨n',g3,g4⟩:=lexR_words s hs a halt out (a:Int) _ rfl ((s.drop a).takeWhile wordP).length 0 m (by omega) (by omega)
           refine Eq.trans g4 ?_
           by_cases h8:((s.drop a).takeWhile wordP).length≤8
           ·rw [if_pos h8] at htk
            have hp:=(qee htk).1
            have hq:=hfin 2 _ _ n' htk
            generalize ((s.drop a).takeWhile wordP)=w at *
            rw [if_neg (by omega),hq (by omega),hgo 2 _ _ hnb htk]
           ·rw [if_neg h8] at htk
            rw [if_pos (by omega),hgo0 hnb htk]
         | false=>
           rw [qdh]
           rw [hlw] at htk
           simp only [Bool.false_eq_true,if_false] at htk
           have h31:letterP b=true→lexR s m (.l1031 a out a)=some (lexGo (f+1) (s.drop a) a out):=fun hlt=>by
            rw [hlt,if_pos rfl] at htk
            obtain ⟨m2,rfl⟩:∃ m2,m=m2+1:=⟨m-1,by omega⟩
            show T23 Ops.std _ _ _ s _ some _=_
            unfold T23
            rw [hgo 3 _ _ hnb htk]
            exact hfin 3 0 [b] m2 htk (by simp;omega)
           by_cases g1:b.toNat=88
           ·rw [if_pos (by omega)];exact h31 (by simp [letterP,g1])
           ·rw [if_neg (by omega)]
            by_cases g2:b.toNat=70
            ·rw [if_pos (by omega)];exact h31 (by simp [letterP,g2])
            ·rw [if_neg (by omega)]
             by_cases g3:b.toNat=71
             ·rw [if_pos (by omega)];exact h31 (by simp [letterP,g3])
             ·rw [if_neg (by omega)]
              by_cases g4:b.toNat=85
              ·rw [if_pos (by omega)];exact h31 (by simp [letterP,g4])
              ·rw [if_neg (by omega)]
               by_cases g5:b.toNat=82
               ·rw [if_pos (by omega)];exact h31 (by simp [letterP,g5])
               ·rw [if_neg (by omega)]
                have hlt:letterP b=false:=by simp [letterP,g1,g2,g3,g4,g5]
                rw [hlt] at htk
                simp only [Bool.false_eq_true,if_false] at htk
                obtain ⟨m2,rfl⟩:∃ m2,m=m2+1:=⟨m-1,by omega⟩
                show T23 Ops.std _ _ _ s _ some _=_
                unfold T23
                simp only [qak,qao,qaa,qaf,List.take_length,mt]
                rw [if_pos (by omega),sign_ref (s.drop a) (by rw [List.length_drop];omega),ob_s]
                by_cases hsg:signS (s.drop a)=[]
                ·rw [if_pos hsg] at htk
                 rw [if_pos (by rw [hsg];rfl),hgo0 hnb htk]
                ·rw [if_neg hsg] at htk
                 have hp:=(qee htk).1
                 rw [if_neg (by omega),hgo 4 _ _ hnb htk]
                 exact hfin 4 0 _ m2 htk (by omega)
theorem lex_ref (s:List UInt8):M23 s=some (lexS s):=by
 show T23 Ops.std M59 M60 M61 s (lexR s 1000000) some none=_
 unfold T23 lexS
 simp only [qai,qaa,mt]
 by_cases h:60000<s.length
 ·rw [if_pos (by omega),if_pos h]
 ·rw [if_neg (by omega),if_neg h]
  exact lexR_go s (by omega) (s.length+1) 0 1000000 [] (by omega) (by omega) (by omega) (by simp)
def tokOK (t:Tok):Prop:=(t.1=1→0≤t.2.2.1∧t.2.2.1≤999)∧(t.1=2→isWordP t.2.1=true)
theorem tokS_ok {s:List UInt8} {k n:Int} {w:List UInt8} (h:tokS s=some (k,w,n)) (x:Int):tokOK (k,w,n,x):=by
 cases s with
 | nil=>simp [tokS] at h
 | cons b r=>
   simp only [tokS] at h
   split at h
   ·rename_i hd
    split at h
    ·rename_i h3
     simp only [Option.some.injEq,Prod.mk.injEq] at h
     obtain ⟨rfl,rfl,rfl⟩:=h
     refine ⟨fun _=>?_,fun h=>(by cases h)⟩
     have:=qez _ ((b::r).takeWhile digitP') rfl fun b hb=>tw_all _ b hb
     have hl:((b::r).takeWhile digitP').length=0∨((b::r).takeWhile digitP').length=1∨((b::r).takeWhile digitP').length=2∨((b::r).takeWhile digitP').length=3:=by omega
     rcases hl with hl | hl | hl | hl<;>rw [hl] at this<;>simp at this ⊢<;>omega
    ·cases h
   ·split at h
    ·rename_i hd hl
     split at h
     ·rename_i h8
      simp only [Option.some.injEq,Prod.mk.injEq] at h
      obtain ⟨rfl,rfl,rfl⟩:=h
      refine ⟨fun h=>(by cases h),fun _=>?_⟩
      rw [List.takeWhile_cons,qc8 hl] at h8 ⊢
      simp only [if_true,List.length_cons] at h8 ⊢
      simp only [isWordP,hl,Bool.true_and,Bool.and_eq_true,List.all_eq_true,decide_eq_true_eq]
      exact ⟨fun b hb=>tw_all _ b hb,h8⟩
     ·cases h
    ·split at h
     ·simp only [Option.some.injEq,Prod.mk.injEq] at h
      obtain ⟨rfl,rfl,rfl⟩:=h
      exact ⟨fun h=>(by cases h),fun h=>(by cases h)⟩
     ·split at h
      ·cases h
      ·simp only [Option.some.injEq,Prod.mk.injEq] at h
       obtain ⟨rfl,rfl,rfl⟩:=h
       exact ⟨fun h=>(by cases h),fun h=>(by cases h)⟩
def toksOK (l:List Tok):Prop:=∃ (q:List Tok) (x:Int),l=q++[(5,[],0,x)]∧∀ t∈q,t.1≠5∧tokOK t
theorem lexGo_ok:∀ (f:Nat) (s:List UInt8) (a:Nat) (out:List Tok),(∀ t∈out,t.1≠5∧tokOK t)→∀ (e x:Int) (l:List Tok),lexGo f s a out=(e,x,l)→e=0→toksOK l∧l.length≤out.length+s.length+1
 | 0,s,a,out,ho,e,x,l,h,he=>by
   simp only [lexGo,Prod.mk.injEq] at h
   omega
 | f+1,[],a,out,ho,e,x,l,h,he=>by
   simp only [lexGo,Prod.mk.injEq] at h
   obtain ⟨_,_,rfl⟩:=h
   exact ⟨⟨out,a,rfl,ho⟩,by simp⟩
 | f+1,b::r,a,out,ho,e,x,l,h,he=>by
   simp only [lexGo] at h
   split at h
   ·have:=lexGo_ok f r (a+1) out ho e x l h he
    exact ⟨this.1,by simp;omega⟩
   ·split at h
    ·simp only [Prod.mk.injEq] at h
     omega
    ·rename_i k w n ht
     have h1:=qee ht
     have:=lexGo_ok f ((b::r).drop w.length) (a+w.length) (out++[(k,w,n,(a:Int))]) (fun t ht'=>by
      rcases List.mem_append.1 ht' with h2 | h2
      ·exact ho t h2
      ·simp at h2;subst h2;exact ⟨h1.2.2.2.2,tokS_ok ht _⟩) e x l h he
     refine ⟨this.1,?_⟩
     have h2:=this.2
     simp only [List.length_append,List.length_cons,List.length_nil,List.length_drop] at h2 ⊢
     omega
theorem lexS_ok {s:List UInt8} {x:Int} {l:List Tok} (h:lexS s=(0,x,l)):toksOK l∧l.length≤s.length+1∧s.length≤60000:=by
 unfold lexS at h
 split at h
 ·simp at h
 ·have:=lexGo_ok _ s 0 [] (by simp) 0 x l h rfl
  exact ⟨this.1,by simpa using this.2,by omega⟩
abbrev Trm:=Int×Int×List UInt8×List UInt8
def opn (k:Int):Int:=
 if k=1∨k=2∨k=3 then 0 else if k=4∨k=8∨k=11∨k=12 then 1 else if k=5∨k=6∨k=7∨k=9∨k=10 then 2 else -1
section
variable {X:Type} (E:List X→Bool)
def badP (p:Int×List X) (d:Int):Bool:=
 decide (opn p.1<0) || decide (d<opn p.1) || (decide (p.1=3) && !E p.2) || (!decide (p.1=3) && decide (0<p.2.length))
def rGo:List (Int×List X)→Int→Option Int
 | [],d=>some d
 | p::r,d=>if badP E p d then none else rGo r (d+1-opn p.1)
inductive Fm (X:Type) where
 | nul (p:Int×List X)
 | un (p:Int×List X) (a:Fm X)
 | bi (p:Int×List X) (a b:Fm X)
def Fm.flat:Fm X→List (Int×List X)
 | .nul p=>[p]
 | .un p a=>a.flat++[p]
 | .bi p a b=>a.flat++b.flat++[p]
def Fm.size:Fm X→Nat
 | .nul _=>1
 | .un _ a=>a.size+1
 | .bi _ a b=>a.size+b.size+1
def Fm.wf:Fm X→Prop
 | .nul p=>opn p.1=0∧(p.1=3→E p.2=true)∧(p.1≠3→p.2=[])
 | .un p a=>opn p.1=1∧p.2=[]∧a.wf
 | .bi p a b=>opn p.1=2∧p.2=[]∧a.wf∧b.wf
theorem Fm.flat_len (t:Fm X):t.flat.length=t.size:=by
 induction t with
 | nul=>rfl
 | un p a ih=>simp [Fm.flat,Fm.size,ih]
 | bi p a b iha ihb=>simp [Fm.flat,Fm.size,iha,ihb];omega
theorem ne3 {k n:Int} (h:opn k=n) (hn:n≠0):k≠3:=by
 rintro rfl
 exact hn (by rw [←h];rfl)
def rightF (f:List (Int×List X)):Bool:=(match rGo E f 0 with
 | some d=>decide (d=1)
 | none=>false) && decide (f.length≤60)
def Fm.kids:Fm X→Nat→List (List Int)
 | .nul _,_=>[[]]
 | .un _ a,b=>a.kids b++[[((b+a.size-1:Nat):Int)]]
 | .bi _ a c,b=>a.kids b++c.kids (b+a.size)++[[((b+a.size-1:Nat):Int),((b+a.size+c.size-1:Nat):Int)]]
theorem Fm.kids_len (t:Fm X):∀ b,(t.kids b).length=t.size:=by
 induction t with
 | nul=>intro b;rfl
 | un p a ih=>intro b;simp [Fm.kids,Fm.size,ih]
 | bi p a c iha ihc=>intro b;simp [Fm.kids,Fm.size,iha,ihc];omega
end
abbrev Prt:=Int×List Trm
def smallF (f:List Prt):Prop:=f.length<900000∧∀ p∈f,p.2.length<900000
theorem smallF.at {f:List Prt} (h:smallF f) {i:Nat} (hi:i<f.length):(f.getD i (Ty.dflt ty78)).2.length<900000:=by
 refine h.2 _ ?_
 rw [List.getD_eq_getElem?_getD,List.getElem?_eq_getElem hi]
 exact List.getElem_mem _
section
variable (E:List Trm→Bool) (f:List Prt) (hf:smallF f)
end
def opE (k:Int):Int:=if k<1∨16<k then -1 else if k≤3 then 0 else if k≤5 then 1 else 2
theorem qcc (k:Int):M50 k=some (opE k):=by
 show T50 Ops.std k some=_
 unfold T50 opE
 simp only [qao,qaz,qai,qaa]
 (repeat' split)<;>first | rfl | (exfalso;omega)
theorem opE_ref (k:Int):M55 k=some (opE k):=by
 show T55 Ops.std k some=_
 unfold T55 opE
 simp only [qao,qaz,qai,qaa]
 (repeat' split)<;>first | rfl | (exfalso;omega)
def mayT (t:Trm):Bool:=
 if t.1=1 then decide (0≤t.2.1) && decide (t.2.1≤999) && (t.2.2.1 == []) && (t.2.2.2 == [])
 else if t.1=2 then decide (t.2.1=0) && isWordP t.2.2.1 && (t.2.2.2 == [])
 else if t.1=3 then decide (t.2.1=0) && isWordP t.2.2.1 && isWordP t.2.2.2
 else decide (0<opE t.1) && decide (t.2.1=0) && (t.2.2.1 == []) && (t.2.2.2 == [])
theorem may_prog (a b:Int) (c d:List UInt8):M58 a b c d=some (mayT (a,b,c,d)):=by
 show T58 Ops.std M95 M50 a b c d some=_
 unfold T58 mayT
 simp only [qao,qaz,qai,qaa,isWord_prog,qcc,ob_s]
 by_cases h1:a=1
 ·simp only [h1,if_true]
  by_cases h2:0≤b<;>by_cases h3:b≤999<;>cases hc:(c == ([]:List UInt8))<;>simp [h2,h3,hc]
 ·simp only [h1,if_false]
  by_cases h2:a=2
  ·simp only [h2,if_true]
   by_cases h3:b=0<;>cases hc:isWordP c<;>simp [h3,hc]
  ·simp only [h2,if_false]
   by_cases h3:a=3
   ·simp only [h3,if_true]
    by_cases h4:b=0<;>cases hc:isWordP c<;>simp [h4,hc]
   ·simp only [h3,if_false]
    by_cases h4:0<opE a<;>by_cases h5:b=0<;>cases hc:(c == ([]:List UInt8))<;>simp [h4,h5,hc]
def eGo:List Trm→Int→Option Int
 | [],d=>some d
 | p::r,d=>if !mayT p || decide (d<opE p.1) then none else eGo r (d+1-opE p.1)
def fin30 (f:List Trm) (o:Option Int):Bool:=match o with
 | some d=>decide (d=1) && decide (f.length≤30)
 | none=>false
def rightE (e:List Trm):Bool:=fin30 e (eGo e 0)
theorem opE_le (k:Int):-1≤opE k∧opE k≤2:=by unfold opE;(repeat' split)<;>omega
theorem mayT_op {t:Trm} (h:mayT t=true):0≤opE t.1:=by
 unfold mayT at h
 unfold opE at *
 (repeat' split at h)<;>(repeat' split)<;>simp_all<;>omega
theorem qb0 (f:List Trm) (hf:f.length<900000):∀ (t i n:Nat) (d:Int),i+t=f.length→t<n→0≤d→d≤i→
  R22 M50 M58 f n (.l0 d (f.length:Nat) i)=some (fin30 f (eGo (f.drop i) d))
 | t,i,0,d,hi,hn,h0,hd=>by omega
 | 0,i,n+1,d,hi,hn,h0,hd=>by
   show T22 Ops.std _ _ f _ some _=_
   unfold T22
   simp only [qai,qao,qaz,qaa]
   rw [if_neg (by omega),List.drop_eq_nil_of_le (by omega)]
   simp only [eGo,fin30]
   by_cases h1:d=1
   ·rw [if_pos h1];simp [h1];omega
   ·rw [if_neg h1];simp [h1]
 | t+1,i,n+1,d,hi,hn,h0,hd=>by
   have hlt:i<f.length:=by omega
   have ih:=fun d=>qb0 f hf t (i+1) n d (by omega) (by omega)
   show T22 Ops.std _ _ f _ some _=_
   unfold T22
   rw [qbj (Ty.dflt ty56) hlt]
   simp only [qai,qao,qaz,qak,qaa,qbt,qaf,eGo]
   generalize f.getD i (Ty.dflt ty56)=p
   obtain ⟨hb1,hb2⟩:=opE_le p.1
   rw [if_pos (by omega),if_pos (by omega),qcc,ob_s,may_prog,ob_s]
   have hp:mayT (p.1,p.2.1,p.2.2.1,p.2.2.2)=mayT p:=rfl
   rw [hp]
   cases hm:mayT p with
   | false=>simp [fin30]
   | true=>
     have:=mayT_op hm
     simp only [Bool.not_true,cond_false,Bool.false_or]
     by_cases h2:d<opE p.1
     ·rw [if_pos h2];simp [h2,fin30]
     ·rw [if_neg h2]
      have hw:IntKind.wrap IntKind.i64 (d+IntKind.wrap IntKind.i64 (1-opE p.1))=d+1-opE p.1:=by
       rw [wrap64 (n:=1-opE p.1) (by omega) (by omega),wrap64 (by omega) (by omega)];omega
      rw [hw,show IntKind.wrap IntKind.i64 ((i:Int)+1)=((i+1:Nat):Int) from qag (by omega),ih _ (by omega) (by omega)]
      simp [h2]
theorem qbb (f:List Trm) (hf:f.length<900000):M22 f=some (rightE f):=by
 show T22 Ops.std M50 M58 f (R22 M50 M58 f 1000000) some none=_
 unfold T22
 exact qb0 f hf f.length 0 1000000 0 (by omega) (by omega) (by omega) (by omega)
noncomputable abbrev rightER (f:List Trm):=R36 M55 M79 f
def smallE (f:List Trm):Prop:=f.length<900000∧∀ p∈f,p.2.2.1.length<900000∧p.2.2.2.length<900000
theorem smallE.at {f:List Trm} (h:smallE f) {i:Nat} (hi:i<f.length):(f.getD i (Ty.dflt ty56)).2.2.1.length<900000∧(f.getD i (Ty.dflt ty56)).2.2.2.length<900000:=by
 refine h.2 _ ?_
 rw [List.getD_eq_getElem?_getD,List.getElem?_eq_getElem hi]
 exact List.getElem_mem _
theorem qb7 (f:List Trm) (hf:smallE f):∀ (t i n:Nat) (d:Int),i+t=f.length→3*t<n→0≤d→d≤i→
  rightER f n (.l0 d i)=some (fin30 f (eGo (f.drop i) d))
 | t,i,0,d,hi,hn,h0,hd=>by omega
 | 0,i,n+1,d,hi,hn,h0,hd=>by
   show T36 Ops.std _ _ f _ some _=_
   unfold T36
   simp only [qai,qao,qaz,qaa]
   rw [if_neg (by omega),List.drop_eq_nil_of_le (by omega)]
   simp only [eGo,fin30]
   by_cases h1:d=1
   ·rw [if_pos h1];simp [h1];omega
   ·rw [if_neg h1];simp [h1]
 | t+1,i,n+1,d,hi,hn,h0,hd=>by
   have hlt:i<f.length:=by omega
   obtain ⟨m,rfl⟩:∃ m,n=m+2:=⟨n-2,by omega⟩
   have ih:=fun d=>qb7 f hf t (i+1) m d (by omega) (by omega)
   have hl:=hf.1
   have hs:=hf.at hlt
   have e18:∀ a:Int,-1≤a→a≤2→rightER f (m+1) (.l1018 d i a)=rightER f m (.l0 (d+1-a) ((i+1:Nat):Int)):=fun a ha1 ha2=>by
    show T36 Ops.std _ _ f _ some _=_
    unfold T36
    show rightER f m (.l0 (IntKind.wrap IntKind.i64 (IntKind.wrap IntKind.i64 (d-a)+1)) (IntKind.wrap IntKind.i64 ((i:Int)+1)))=_
    rw [wrap64 (n:=d-a) (by omega) (by omega),wrap64 (n:=d-a+1) (by omega) (by omega),show IntKind.wrap IntKind.i64 ((i:Int)+1)=((i+1:Nat):Int) from qag (by omega)]
    congr 2;omega
   show T36 Ops.std _ _ f _ some _=_
   unfold T36
   rw [qbj (Ty.dflt ty56) hlt]
   simp only [qai,qao,qaz,qak,qaa,qbt,qaf,eGo]
   generalize f.getD i (Ty.dflt ty56)=p at hs ⊢
   obtain ⟨hb1,hb2⟩:=opE_le p.1
   rw [if_pos (by omega),if_pos (by omega),opE_ref,ob_s]
   have e16:∀ (w2:Int) (w3 w4:List UInt8),(opE p.1<0∨¬ (w2=p.2.1∧w3=p.2.2.1∧w4=p.2.2.2)∨p.2.1<0∨999<p.2.1∨(p.1=2∧isWordP p.2.2.1=false)∨(p.1=3∧(isWordP p.2.2.1 && isWordP p.2.2.2)=false)↔mayT p=false)→
     rightER f (m+2) (.l1016 d i (opE p.1) p.1 p.2.1 p.2.2.1 p.2.2.2 p.1 w2 w3 w4)=some (fin30 f (if !mayT p || decide (d<opE p.1) then none else eGo (f.drop (i+1)) (d+1-opE p.1))):=fun w2 w3 w4 hw=>by
    show T36 Ops.std _ _ f _ some _=_
    unfold T36
    simp only [qai,qao,qaz,qak,qaa,qex _ hs.1,qex _ hs.2,ob_s]
    have g18:=e18 (opE p.1) hb1 hb2
    cases hm:mayT p with
    | false=>
      have hbad:=hw.2 hm
      simp only [Bool.not_false,Bool.true_or,if_true,fin30]
      by_cases h1:opE p.1<0
      ·rw [if_pos h1]
      ·rw [if_neg h1]
       by_cases h2:d<opE p.1
       ·rw [if_pos h2]
       ·rw [if_neg h2]
        by_cases h3:w2=p.2.1∧w3=p.2.2.1∧w4=p.2.2.2
        ·obtain ⟨rfl,rfl,rfl⟩:=h3
         simp only [decide_true,beq_self_eq_true,Bool.and_self,Bool.not_true,cond_false]
         by_cases h4:p.2.1<0
         ·rw [if_pos h4]
         ·rw [if_neg h4]
          by_cases h5:999<p.2.1
          ·rw [if_pos h5]
          ·rw [if_neg h5]
           have h6:(p.1=2∧isWordP p.2.2.1=false)∨(p.1=3∧(isWordP p.2.2.1 && isWordP p.2.2.2)=false):=by
            rcases hbad with h | h | h | h | h | h
            ·exact absurd h h1
            ·exact absurd ⟨rfl,rfl,rfl⟩ h
            ·exact absurd h h4
            ·exact absurd h h5
            ·exact .inl h
            ·exact .inr h
           rcases h6 with ⟨h6,h7⟩ | ⟨h6,h7⟩
           ·rw [if_pos h6,h7];rfl
           ·rw [if_neg (by omega),if_pos h6]
            cases ha:isWordP p.2.2.1 with
            | false=>rfl
            | true=>
              rw [ha] at h7
              simp only [Bool.true_and] at h7
              simp only [Bool.not_true,cond_false,h7,Bool.not_false,cond_true]
              rw [if_pos h6]
        ·have:(!(decide True && (decide (p.2.1=w2) && (p.2.2.1 == w3 && (p.2.2.2 == w4 && true)))))=true:=by
          rw [Bool.not_eq_true',Bool.eq_false_iff]
          intro hx
          simp only [Bool.and_eq_true,decide_eq_true_eq,beq_iff_eq] at hx
          exact h3 ⟨hx.2.1.symm,hx.2.2.1.symm,hx.2.2.2.1.symm⟩
         rw [this];rfl
    | true=>
      have hgood:¬ (opE p.1<0∨¬ (w2=p.2.1∧w3=p.2.2.1∧w4=p.2.2.2)∨p.2.1<0∨999<p.2.1∨(p.1=2∧isWordP p.2.2.1=false)∨(p.1=3∧(isWordP p.2.2.1 && isWordP p.2.2.2)=false)):=fun h=>by
       have:=hw.1 h;rw [hm] at this;cases this
      simp only [not_or,Classical.not_not] at hgood
      obtain ⟨h1,⟨rfl,rfl,rfl⟩,h4,h5,h6,h7⟩:=hgood
      simp only [Bool.not_true,Bool.false_or,decide_true,beq_self_eq_true,Bool.and_self,cond_false]
      rw [if_neg h1]
      by_cases h2:d<opE p.1
      ·rw [if_pos h2];simp [h2,fin30]
      ·rw [if_neg h2,if_neg h4,if_neg h5]
       have hgo:=g18.trans (ih (d+1-opE p.1) (by omega) (by omega))
       have hres:(if decide (d<opE p.1)=true then none else eGo (f.drop (i+1)) (d+1-opE p.1))=eGo (f.drop (i+1)) (d+1-opE p.1):=by simp [h2]
       rw [hres]
       by_cases h8:p.1=2
       ·have ha:isWordP p.2.2.1=true:=by
         cases ha:isWordP p.2.2.1 with
         | true=>rfl
         | false=>exact absurd ⟨h8,ha⟩ h6
        rw [if_pos h8,ha]
        simp only [Bool.not_true,cond_false]
        rw [if_neg (by omega)]
        exact hgo
       ·rw [if_neg h8]
        by_cases h9:p.1=3
        ·have hab:(isWordP p.2.2.1 && isWordP p.2.2.2)=true:=by
          cases hab:(isWordP p.2.2.1 && isWordP p.2.2.2) with
          | true=>rfl
          | false=>exact absurd ⟨h9,hab⟩ h7
         simp only [Bool.and_eq_true] at hab
         rw [if_pos h9,hab.1]
         simp only [Bool.not_true,cond_false]
         rw [if_pos h9,hab.2]
         simp only [Bool.not_true,cond_false]
         exact hgo
        ·rw [if_neg h9,if_neg h9]
         exact hgo
   by_cases h1:p.1=1
   ·rw [if_pos h1]
    refine e16 p.2.1 [] [] ?_
    have hop:opE p.1=0:=by rw [h1];rfl
    have hmt:mayT p=(decide (0≤p.2.1) && decide (p.2.1≤999) && (p.2.2.1 == []) && (p.2.2.2 == [])):=by unfold mayT;rw [if_pos h1]
    rw [hmt]
    simp only [Bool.and_eq_false_iff,decide_eq_false_iff_not,beq_eq_false_iff_ne]
    constructor
    ·intro h
     rcases h with h | h | h | h | h | h
     ·omega
     ·by_cases h2:p.2.2.1=[]
      ·exact .inr fun h3=>h ⟨trivial,h2.symm,h3.symm⟩
      ·exact .inl (.inr h2)
     ·exact .inl (.inl (.inl (by omega)))
     ·exact .inl (.inl (.inr (by omega)))
     ·omega
     ·omega
    ·intro h
     rcases h with ((h | h) | h) | h
     ·exact .inr (.inr (.inl (by omega)))
     ·exact .inr (.inr (.inr (.inl (by omega))))
     ·exact .inr (.inl fun h2=>h h2.2.1.symm)
     ·exact .inr (.inl fun h2=>h h2.2.2.symm)
   ·rw [if_neg h1]
    by_cases h2:p.1=2
    ·rw [if_pos h2]
     refine e16 0 p.2.2.1 [] ?_
     have hop:opE p.1=0:=by rw [h2];rfl
     have hmt:mayT p=(decide (p.2.1=0) && isWordP p.2.2.1 && (p.2.2.2 == [])):=by unfold mayT;rw [if_neg h1,if_pos h2]
     rw [hmt]
     simp only [Bool.and_eq_false_iff,decide_eq_false_iff_not,beq_eq_false_iff_ne]
     constructor
     ·intro h
      rcases h with h | h | h | h | h | h
      ·omega
      ·by_cases h3:p.2.1=0
       ·exact .inr fun h4=>h ⟨h3.symm,trivial,h4.symm⟩
       ·exact .inl (.inl h3)
      ·exact .inl (.inl (by omega))
      ·exact .inl (.inl (by omega))
      ·exact .inl (.inr h.2)
      ·omega
     ·intro h
      rcases h with (h | h) | h
      ·exact .inr (.inl fun h3=>h h3.1.symm)
      ·exact .inr (.inr (.inr (.inr (.inl ⟨h2,h⟩))))
      ·exact .inr (.inl fun h3=>h h3.2.2.symm)
    ·rw [if_neg h2]
     by_cases h3:p.1=3
     ·rw [if_pos h3]
      refine e16 0 p.2.2.1 p.2.2.2 ?_
      have hop:opE p.1=0:=by rw [h3];rfl
      have hmt:mayT p=(decide (p.2.1=0) && isWordP p.2.2.1 && isWordP p.2.2.2):=by unfold mayT;rw [if_neg h1,if_neg h2,if_pos h3]
      rw [hmt]
      simp only [Bool.and_eq_false_iff,decide_eq_false_iff_not]
      constructor
      ·intro h
       rcases h with h | h | h | h | h | h
       ·omega
       ·by_cases h4:p.2.1=0
        ·exact absurd ⟨h4.symm,trivial,trivial⟩ h
        ·exact .inl (.inl h4)
       ·exact .inl (.inl (by omega))
       ·exact .inl (.inl (by omega))
       ·omega
       ·rcases h.2 with h | h
        ·exact .inl (.inr h)
        ·exact .inr h
      ·intro h
       rcases h with (h | h) | h
       ·exact .inr (.inl fun h4=>h h4.1.symm)
       ·exact .inr (.inr (.inr (.inr (.inr ⟨h3,.inl h⟩))))
       ·exact .inr (.inr (.inr (.inr (.inr ⟨h3,.inr h⟩))))
     ·rw [if_neg h3]
      refine e16 0 [] [] ?_
      have hmt:mayT p=(decide (0<opE p.1) && decide (p.2.1=0) && (p.2.2.1 == []) && (p.2.2.2 == [])):=by unfold mayT;rw [if_neg h1,if_neg h2,if_neg h3]
      rw [hmt]
      simp only [Bool.and_eq_false_iff,decide_eq_false_iff_not,beq_eq_false_iff_ne]
      constructor
      ·intro h
       rcases h with h | h | h | h | h | h
       ·exact .inl (.inl (.inl (by omega)))
       ·by_cases h4:p.2.1=0
        ·by_cases h5:p.2.2.1=[]
         ·exact .inr fun h6=>h ⟨h4.symm,h5.symm,h6.symm⟩
         ·exact .inl (.inr h5)
        ·exact .inl (.inl (.inr h4))
       ·exact .inl (.inl (.inr (by omega)))
       ·exact .inl (.inl (.inr (by omega)))
       ·exact absurd h.1 (by omega)
       ·exact absurd h.1 (by omega)
      ·intro h
       rcases h with ((h | h) | h) | h
       ·refine .inl ?_
        unfold opE at h ⊢
        (repeat' split at h)<;>(repeat' split)<;>omega
       ·exact .inr (.inl fun h4=>h h4.1.symm)
       ·exact .inr (.inl fun h4=>h h4.2.1.symm)
       ·exact .inr (.inl fun h4=>h h4.2.2.symm)
theorem qcd (f:List Trm) (hf:smallE f) (h3:f.length<300000):M36 f=some (rightE f):=by
 show T36 Ops.std M55 M79 f (rightER f 1000000) some none=_
 unfold T36
 exact qb7 f hf f.length 0 1000000 0 (by omega) (by omega) (by omega) (by omega)
theorem toks_len {l:List Tok} (h:toksOK l):0<l.length:=by
 obtain ⟨q,x,rfl,_⟩:=h;simp
theorem toks_at {l:List Tok} (h:toksOK l) {i:Nat} (hi:i<l.length) (d:Tok):(i+1<l.length∨(l.getD i d).1=5)∧tokOK (l.getD i d)∧((l.getD i d).1=5→i+1=l.length):=by
 obtain ⟨q,x,rfl,hq⟩:=h
 simp only [List.length_append,List.length_cons,List.length_nil] at hi ⊢
 by_cases hlt:i<q.length
 ·have hg:(q++[(5,[],0,x)]).getD i d=q[i]:=by
   rw [List.getD_eq_getElem?_getD,List.getElem?_append_left hlt,List.getElem?_eq_getElem hlt];rfl
  rw [hg]
  have:=hq _ (List.getElem_mem hlt)
  exact ⟨.inl (by omega),this.2,fun h=>absurd h this.1⟩
 ·have hi':i=q.length:=by omega
  subst hi'
  rw [qa3]
  exact ⟨.inr rfl,⟨fun h=>(by cases h),fun h=>(by cases h)⟩,fun _=>rfl⟩
theorem qa0 {l:List Tok} (h:toksOK l) {i:Nat} (hi:i<l.length) (d:Tok) (hk:(l.getD i d).1≠5):i+1<l.length:=by
 rcases (toks_at h hi d).1 with h1 | h1
 ·exact h1
 ·exact absurd h1 hk
def goodE (e:List Trm):Prop:=∀ (r:List Trm) (d:Int),0≤d→eGo (e++r) d=eGo r (d+1)
theorem goodE.nul {t:Trm} (h:mayT t=true) (ho:opE t.1=0):goodE [t]:=fun r d hd=>by
 simp only [List.cons_append,List.nil_append,eGo,h,ho]
 rw [if_neg (by simp;omega)]
 congr 1;omega
theorem goodE.un {e:List Trm} {t:Trm} (he:goodE e) (h:mayT t=true) (ho:opE t.1=1):goodE (e++[t]):=fun r d hd=>by
 rw [List.append_assoc,he _ d hd]
 simp only [List.cons_append,List.nil_append,eGo,h,ho]
 rw [if_neg (by simp;omega)]
 congr 1;omega
theorem goodE.bi {e e2:List Trm} {t:Trm} (he:goodE e) (he2:goodE e2) (h:mayT t=true) (ho:opE t.1=2):goodE (e++e2++[t]):=fun r d hd=>by
 rw [List.append_assoc,List.append_assoc,he _ d hd,he2 _ (d+1) (by omega)]
 simp only [List.cons_append,List.nil_append,eGo,h,ho]
 rw [if_neg (by simp;omega)]
 congr 1;omega
theorem goodE.right {e:List Trm} (h:goodE e) (hl:e.length≤30):rightE e=true:=by
 have:=h [] 0 (by omega)
 rw [List.append_nil] at this
 unfold rightE
 rw [this]
 simp [eGo,fin30,hl]
theorem may_op {k:Int} (h:4≤k) (h2:k≤16):mayT (k,0,[],[])=true:=by
 have:0<opE k:=by unfold opE;(repeat' split)<;>omega
 unfold mayT
 rw [if_neg (by show ¬ k=1;omega),if_neg (by show ¬ k=2;omega),if_neg (by show ¬ k=3;omega)]
 simp [this]
section
variable {l:List Tok} (hl:toksOK l)
end
section
variable {f:List Prt} {Run:Nat→Nat→List (List Int)→List Int→Option (List (List Int))} {E:List Trm→Bool}
end
section
variable (E:List Trm→Bool)
end
structure At (f:List Prt) (K:List (List Int)) (t:Fm Trm) (b:Nat):Prop where
 parts:∃ pre post,f=pre++t.flat++post∧pre.length=b
 kids:∃ pre post,K=pre++t.kids b++post∧pre.length=b
section
variable {f:List Prt} {K:List (List Int)} {b:Nat}
theorem At.len {t:Fm Trm} (h:At f K t b):b+t.size≤f.length∧b+t.size≤K.length:=by
 obtain ⟨⟨pre,post,h1,h2⟩,⟨kp,kq,h3,h4⟩⟩:=h
 constructor
 ·rw [h1];simp only [List.length_append,t.flat_len,h2];omega
 ·rw [h3];simp only [List.length_append,t.kids_len,h4];omega
theorem At.un {p:Prt} {a:Fm Trm} (h:At f K (.un p a) b):At f K a b:=by
 obtain ⟨⟨pre,post,h1,h2⟩,⟨kp,kq,h3,h4⟩⟩:=h
 exact ⟨⟨pre,[p]++post,by rw [h1];simp [Fm.flat],h2⟩,⟨kp,[[((b+a.size-1:Nat):Int)]]++kq,by rw [h3];simp [Fm.kids],h4⟩⟩
end
theorem At.all (t:Fm Trm):At t.flat (t.kids 0) t 0:=⟨⟨[],[],by simp,rfl⟩,⟨[],[],by simp,rfl⟩⟩
section
variable (f:List Prt) (K:List (List Int)) (i:Int) (no:Bool) (out:List Prt) (d n:Nat)
end
section
variable {E:List Trm→Bool}
end
section
variable {E:List Trm→Bool}
end
def shortP (p:Prt):Prop:=p.2.length≤30∧∀ t∈p.2,t.2.2.1.length≤8∧t.2.2.2.length≤8
def goodF (e:List Prt):Prop:=(∀ (r:List Prt) (d:Int),0≤d→rGo rightE (e++r) d=rGo rightE r (d+1))∧∀ p∈e,shortP p
theorem shortP.nil (k:Int):shortP (k,[]):=⟨by simp,by simp⟩
theorem badP_of {p:Prt} {d:Int} (h1:0≤opn p.1) (h2:opn p.1≤d) (h3:p.1=3→rightE p.2=true) (h4:p.1≠3→p.2=[]):badP rightE p d=false:=by
 unfold badP
 by_cases h:p.1=3
 ·rw [h] at h1 h2
  simp [h,h3 h];omega
 ·simp [h,h4 h];omega
theorem goodF.nul {p:Prt} (ho:opn p.1=0) (h3:p.1=3→rightE p.2=true) (h4:p.1≠3→p.2=[]) (hs:shortP p):goodF [p]:=by
 refine ⟨fun r d hd=>?_,by simpa using hs⟩
 simp only [List.cons_append,List.nil_append,rGo,badP_of (by omega) (by omega:opn p.1≤d) h3 h4,ho]
 simp
theorem goodF.un {e:List Prt} {k:Int} (he:goodF e) (ho:opn k=1):goodF (e++[(k,[])]):=by
 refine ⟨fun r d hd=>?_,fun p hp=>?_⟩
 ·rw [List.append_assoc,he.1 _ d hd]
  have hk:k≠3:=ne3 ho (by omega)
  have hb:badP rightE ((k,[]):Prt) (d+1)=false:=badP_of (p:=(k,[])) (by show 0≤opn k;omega) (by show opn k≤d+1;omega) (fun h=>absurd h hk) (fun _=>rfl)
  simp only [List.cons_append,List.nil_append,rGo,hb,ho]
  simp
 ·rcases List.mem_append.1 hp with h | h
  ·exact he.2 p h
  ·simp at h;subst h;exact shortP.nil k
theorem goodF.bi {e e2:List Prt} {k:Int} (he:goodF e) (he2:goodF e2) (ho:opn k=2):goodF (e++e2++[(k,[])]):=by
 refine ⟨fun r d hd=>?_,fun p hp=>?_⟩
 ·rw [List.append_assoc,List.append_assoc,he.1 _ d hd,he2.1 _ (d+1) (by omega)]
  have hk:k≠3:=ne3 ho (by omega)
  have hb:badP rightE ((k,[]):Prt) (d+1+1)=false:=badP_of (p:=(k,[])) (by show 0≤opn k;omega) (by show opn k≤d+1+1;omega) (fun h=>absurd h hk) (fun _=>rfl)
  simp only [List.cons_append,List.nil_append,rGo,hb,ho]
  simp;congr 1;omega
 ·rcases List.mem_append.1 hp with h | h
  ·rcases List.mem_append.1 h with h | h
   ·exact he.2 p h
   ·exact he2.2 p h
  ·simp at h;subst h;exact shortP.nil k
theorem goodF.right {e:List Prt} (h:goodF e) (hl:e.length≤60):rightF rightE e=true:=by
 have:=h.1 [] 0 (by omega)
 rw [List.append_nil] at this
 unfold rightF
 rw [this]
 simp [rGo,hl]
theorem eGo_may:∀ (e:List Trm) (d n:Int),eGo e d=some n→∀ t∈e,mayT t=true
 | [],d,n,h,t,ht=>by simp at ht
 | p::r,d,n,h,t,ht=>by
   simp only [eGo] at h
   split at h
   ·cases h
   ·rename_i hc
    simp only [Bool.or_eq_true,Bool.not_eq_true',not_or,Bool.not_eq_false] at hc
    rcases List.mem_cons.1 ht with rfl | ht
    ·exact hc.1
    ·exact eGo_may r _ n h t ht
theorem word_len {w:List UInt8} (h:isWordP w=true):w.length≤8:=by
 cases w with
 | nil=>simp
 | cons b r=>
   simp only [isWordP,Bool.and_eq_true,decide_eq_true_eq] at h
   simpa using h.2
theorem may_len {t:Trm} (h:mayT t=true):t.2.2.1.length≤8∧t.2.2.2.length≤8:=by
 unfold mayT at h
 split at h
 ·simp only [Bool.and_eq_true,beq_iff_eq] at h
  rw [h.1.2,h.2];simp
 ·split at h
  ·simp only [Bool.and_eq_true,beq_iff_eq] at h
   rw [h.2];exact ⟨word_len h.1.2,by simp⟩
  ·split at h
   ·simp only [Bool.and_eq_true] at h
    exact ⟨word_len h.1.2,word_len h.2⟩
   ·simp only [Bool.and_eq_true,beq_iff_eq] at h
    rw [h.1.2,h.2];simp
theorem rightE_short {e:List Trm} (h:rightE e=true):e.length≤30∧∀ t∈e,t.2.2.1.length≤8∧t.2.2.2.length≤8:=by
 unfold rightE fin30 at h
 cases hg:eGo e 0 with
 | none=>rw [hg] at h;cases h
 | some d=>
   rw [hg] at h
   simp only [Bool.and_eq_true,decide_eq_true_eq] at h
   exact ⟨h.2,fun t ht=>may_len (eGo_may e 0 d hg t ht)⟩
def shortE (f:List Trm):Prop:=f.length≤30∧∀ t∈f,t.2.2.1.length≤8∧t.2.2.2.length≤8
theorem shortE_nil:shortE []:=⟨by simp,fun t h=>by cases h⟩
theorem shortE.of {f:List Trm} (h:rightE f=true):shortE f:=rightE_short h
theorem shortE.small {f:List Trm} (h:shortE f):smallE f:=⟨by have:=h.1;omega,fun t ht=>by have:=h.2 t ht;omega⟩
theorem shortE.rtR {f:List Trm} (h:shortE f):M36 f=some (rightE f):=qcd f h.small (by have:=h.1;omega)
abbrev Eff:=List UInt8×List Trm
def okEf (x:Eff):Prop:=x.1.length≤8∧rightE x.2=true
abbrev Sd:=List UInt8×Int
def okS (L:Nat) (st:List Sd):Prop:=∀ x∈st,x.1.length≤L
theorem okS.mono {L L':Nat} {st:List Sd} (h:okS L st) (hl:L≤L'):okS L' st:=fun x hx=>Nat.le_trans (h x hx) hl
theorem okS.app {L:Nat} {st:List Sd} {x:Sd} (h:okS L st) (hx:x.1.length≤L):okS L (st++[x]):=fun y hy=>by
 rcases List.mem_append.1 hy with hy | hy
 ·exact h y hy
 ·simp only [List.mem_singleton] at hy;rw [hy];exact hx
theorem okS.take {L:Nat} {st:List Sd} (h:okS L st) (k:Nat):okS L (st.take k):=fun y hy=>h y (List.mem_of_mem_take hy)
theorem okS.get {L:Nat} {st:List Sd} (h:okS L st) (k:Nat) (hk:k<st.length) (d:Sd):(st.getD k d).1.length≤L:=by
 rw [List.getD_eq_getElem?_getD,List.getElem?_eq_getElem hk];exact h _ (List.getElem_mem hk)
theorem okEf.short {x:Eff} (h:okEf x):shortE x.2:=shortE.of h.2
abbrev Trn:=Int×List UInt8×List UInt8×List UInt8×List UInt8×List Trm×List Eff
def okTr (t:Trn):Prop:=t.2.1.length≤60000∧t.2.2.1.length≤60000∧t.2.2.2.1.length≤60000∧t.2.2.2.2.1.length≤60000∧shortE t.2.2.2.2.2.1∧t.2.2.2.2.2.2.length≤100000∧∀ x∈t.2.2.2.2.2.2,okEf x
abbrev Vrb:=List UInt8×Int×Int×Int
abbrev Pcs:=List UInt8×List (List UInt8)
section
variable (vs:List Vrb) (ps:List Pcs) (ts:List Trn)
theorem qdj (hp:ps.length≤100000) (s:List UInt8):∀ (t i n:Nat),i+t=ps.length→t<n→∃ r,R75 vs ps ts s n (.l0 i)=some r∧(r = -1∨∃ k:Nat,k<ps.length∧r=(k:Int))
 | t,i,0,hi,hn=>by omega
 | 0,i,n+1,hi,hn=>by
   show ∃ r,T75 Ops.std vs ps ts s _ some _=some r∧_
   unfold T75
   simp only [qai,qaa]
   rw [if_neg (by omega)]
   exact ⟨_,rfl,.inl rfl⟩
 | t+1,i,n+1,hi,hn=>by
   have ih:=qdj hp s t (i+1) n (by omega) (by omega)
   show ∃ r,T75 Ops.std vs ps ts s _ some _=some r∧_
   unfold T75
   simp only [qai,qak,qaa,qaf,show IntKind.wrap IntKind.i64 ((i:Int)+1)=((i+1:Nat):Int) from qag (by omega)]
   rw [if_pos (by omega),if_pos (by omega)]
   cases (ps.getD i (Ty.dflt ty73)).1 == s with
   | true=>exact ⟨_,rfl,.inr ⟨i,by omega,rfl⟩⟩
   | false=>exact ih
theorem qc9 (hp:ps.length≤100000) (s:List UInt8):∃ r,M75 vs ps ts s=some r∧(r = -1∨∃ k:Nat,k<ps.length∧r=(k:Int)):=by
 show ∃ r,T75 Ops.std vs ps ts s (R75 vs ps ts s 1000000) some none=some r∧_
 unfold T75
 exact qdj vs ps ts hp s ps.length 0 1000000 (by omega) (by omega)
theorem qcq (hv:vs.length≤100000) (s:List UInt8):∀ (t i n:Nat),i+t=vs.length→t<n→∃ r,R74 vs ps ts s n (.l0 i)=some r∧(r = -1∨∃ k:Nat,k<vs.length∧r=(k:Int))
 | t,i,0,hi,hn=>by omega
 | 0,i,n+1,hi,hn=>by
   show ∃ r,T74 Ops.std vs ps ts s _ some _=some r∧_
   unfold T74
   simp only [qai,qaa]
   rw [if_neg (by omega)]
   exact ⟨_,rfl,.inl rfl⟩
 | t+1,i,n+1,hi,hn=>by
   have ih:=qcq hv s t (i+1) n (by omega) (by omega)
   show ∃ r,T74 Ops.std vs ps ts s _ some _=some r∧_
   unfold T74
   simp only [qai,qak,qaa,qaf,show IntKind.wrap IntKind.i64 ((i:Int)+1)=((i+1:Nat):Int) from qag (by omega)]
   rw [if_pos (by omega),if_pos (by omega)]
   cases (vs.getD i (Ty.dflt ty108)).1 == s with
   | true=>exact ⟨_,rfl,.inr ⟨i,by omega,rfl⟩⟩
   | false=>exact ih
theorem qbu (hv:vs.length≤100000) (s:List UInt8):∃ r,M74 vs ps ts s=some r∧(r = -1∨∃ k:Nat,k<vs.length∧r=(k:Int)):=by
 show ∃ r,T74 Ops.std vs ps ts s (R74 vs ps ts s 1000000) some none=some r∧_
 unfold T74
 exact qcq vs ps ts hv s vs.length 0 1000000 (by omega) (by omega)
def okLocs (ps:List Pcs):Prop:=∀ p∈ps,p.2.length≤100000
theorem okLocs.get {ps:List Pcs} (h:okLocs ps) (k:Nat) (hk:k<ps.length):(ps.getD k (Ty.dflt ty73)).2.length≤100000:=by
 rw [List.getD_eq_getElem?_getD,List.getElem?_eq_getElem hk];exact h _ (List.getElem_mem hk)
theorem qe0 (hl:okLocs ps) (p:Nat) (hp:p<ps.length) (s:List UInt8):∀ (t i n:Nat),i+t=(ps.getD p (Ty.dflt ty73)).2.length→t<n→∃ r,R77 vs ps ts p s n (.l0 i)=some r∧(r = -1∨∃ k:Nat,k<(ps.getD p (Ty.dflt ty73)).2.length∧r=(k:Int))
 | t,i,0,hi,hn=>by omega
 | 0,i,n+1,hi,hn=>by
   show ∃ r,T77 Ops.std vs ps ts p s _ some _=some r∧_
   unfold T77
   simp only [qai,qak,qaa,qaf]
   rw [if_pos (by omega),if_neg (by omega)]
   exact ⟨_,rfl,.inl rfl⟩
 | t+1,i,n+1,hi,hn=>by
   have ih:=qe0 hl p hp s t (i+1) n (by omega) (by omega)
   have hg:=hl.get p hp
   show ∃ r,T77 Ops.std vs ps ts p s _ some _=some r∧_
   unfold T77
   simp only [qai,qak,qaa,qaf,show IntKind.wrap IntKind.i64 ((i:Int)+1)=((i+1:Nat):Int) from qag (by omega)]
   rw [if_pos (by omega),if_pos (by omega),if_pos (by omega),if_pos (by omega)]
   generalize ((ps.getD p (Ty.dflt ty73)).2.getD i (Ty.dflt Ty.str) == s)=b
   cases b with
   | true=>exact ⟨_,rfl,.inr ⟨i,by omega,rfl⟩⟩
   | false=>exact ih
theorem place_ok (hl:okLocs ps) (p:Int) (hp:p = -1∨∃ k:Nat,k<ps.length∧p=(k:Int)) (s:List UInt8):∃ r,M77 vs ps ts p s=some r∧(0≤r→∃ q:Nat,q<ps.length∧p=(q:Int)):=by
 show ∃ r,T77 Ops.std vs ps ts p s (R77 vs ps ts p s 1000000) some none=some r∧_
 unfold T77
 simp only [qai,qaa]
 rcases hp with rfl | ⟨k,hk,rfl⟩
 ·rw [if_pos (by decide)];exact ⟨_,rfl,fun h=>by omega⟩
 ·rw [if_neg (by omega)]
  obtain ⟨r,h1,h2⟩:=qe0 vs ps ts hl k hk s (ps.getD k (Ty.dflt ty73)).2.length 0 1000000 (by omega) (by have:=hl.get k hk;omega)
  exact ⟨r,h1,fun _=>⟨k,hk,rfl⟩⟩
structure smallG:Prop where
 v:vs.length≤100000
 p:ps.length≤100000
 l:okLocs ps
variable {vs ps}
def knE (vs:List Vrb) (ps:List Pcs) (ts:List Trn) (t:Trm):Prop:=
 (t.1=2→∃ k:Nat,k<vs.length∧M74 vs ps ts t.2.2.1=some (k:Int))∧
 (t.1=3→∃ (q:Nat) (r:Int),q<ps.length∧M75 vs ps ts t.2.2.1=some (q:Int)∧M77 vs ps ts (q:Int) t.2.2.2=some r)
theorem qe1 (hg:smallG vs ps) (e:List Trm) (he:shortE e):∀ (t i n:Nat),i+t=e.length→t<n→(∀ x∈e.take i,knE vs ps ts x)→∃ b,R37 M74 M75 M77 M36 vs ps ts e n (.l0 i)=some b∧(b=true→rightE e=true∧∀ x∈e,knE vs ps ts x)
 | t,i,0,hi,hn,hk=>by omega
 | 0,i,n+1,hi,hn,hk=>by
   show ∃ b,T37 Ops.std _ _ _ _ vs ps ts e _ some _=some b∧_
   unfold T37
   simp only [qai,qaa]
   rw [if_neg (by omega),he.rtR,ob_s]
   refine ⟨_,rfl,fun h=>⟨h,?_⟩⟩
   rwa [List.take_of_length_le (by omega)] at hk
 | t+1,i,n+1,hi,hn,hk=>by
   have ih:=qe1 hg e he t (i+1) n (by omega) (by omega)
   have h30:=he.1
   obtain ⟨x,hx⟩:∃ x,e.getD i (Ty.dflt ty56)=x:=⟨_,rfl⟩
   have htk:e.take (i+1)=e.take i++[x]:=by
    rw [List.take_succ_eq_append_getElem (by omega)]
    rw [List.getD_eq_getElem?_getD,List.getElem?_eq_getElem (by omega)] at hx
    rw [←hx];rfl
   have nxt:knE vs ps ts x→∀ y∈e.take (i+1),knE vs ps ts y:=fun h y hy=>by
    rw [htk] at hy
    rcases List.mem_append.1 hy with hy | hy
    ·exact hk y hy
    ·simp only [List.mem_singleton] at hy;rw [hy];exact h
   show ∃ b,T37 Ops.std _ _ _ _ vs ps ts e _ some _=some b∧_
   unfold T37
   simp only [qai,qak,qao,qaa,qaf,hx,show IntKind.wrap IntKind.i64 ((i:Int)+1)=((i+1:Nat):Int) from qag (by omega)]
   rw [if_pos (by omega),if_pos (by omega)]
   obtain ⟨r,r1,r2⟩:=qbu vs ps ts hg.v x.2.2.1
   obtain ⟨q,q1,q2⟩:=qc9 vs ps ts hg.p x.2.2.1
   obtain ⟨z,z1,z2⟩:=place_ok vs ps ts hg.l q q2 x.2.2.2
   by_cases h2:x.1=2
   ·rw [if_pos h2,if_pos (by omega),r1,ob_s]
    by_cases hr:r<0
    ·rw [if_pos hr];exact ⟨_,rfl,fun h=>by cases h⟩
    ·rw [if_neg hr,if_pos (by omega),if_neg (by omega)]
     refine ih (nxt ⟨fun _=>?_,fun h=>by omega⟩)
     rcases r2 with rfl | ⟨k,hk1,rfl⟩
     ·omega
     ·exact ⟨k,hk1,r1⟩
   ·rw [if_neg h2,if_pos (by omega)]
    by_cases h3:x.1=3
    ·rw [if_pos h3,if_pos (by omega),if_pos (by omega),q1,ob_s,z1,ob_s]
     by_cases hz:z<0
     ·rw [if_pos hz];exact ⟨_,rfl,fun h=>by cases h⟩
     ·rw [if_neg hz]
      obtain ⟨q',hq',rfl⟩:=z2 (by omega)
      exact ih (nxt ⟨fun h=>by omega,fun _=>⟨q',z,hq',q1,z1⟩⟩)
    ·rw [if_neg h3]
     exact ih (nxt ⟨fun h=>absurd h h2,fun h=>absurd h h3⟩)
theorem known_ok (hg:smallG vs ps) (e:List Trm) (he:shortE e):∃ b,M37 vs ps ts e=some b∧(b=true→rightE e=true∧∀ x∈e,knE vs ps ts x):=by
 show ∃ b,T37 Ops.std M74 M75 M77 M36 vs ps ts e (R37 M74 M75 M77 M36 vs ps ts e 1000000) some none=some b∧_
 unfold T37
 exact qe1 ts hg e he e.length 0 1000000 (by omega) (by have:=he.1;omega) (fun x h=>by simp at h)
end
theorem getD_mem' {α:Type} {l:List α} {i:Nat} (hi:i<l.length) (d:α):l.getD i d∈l:=by
 rw [List.getD_eq_getElem?_getD,List.getElem?_eq_getElem hi];exact List.getElem_mem hi
structure smallM (vs:List Vrb) (ps:List Pcs) (ts:List Trn):Prop where
 vl:vs.length≤5001
 v:∀ v∈vs,v.1.length≤60000
 pl:ps.length≤5001
 p:∀ p∈ps,p.1.length≤60000∧p.2.length≤60001∧okL 60000 p.2
 tl:ts.length≤5001
 t:∀ t∈ts,okTr t
theorem smallM.g {vs:List Vrb} {ps:List Pcs} {ts:List Trn} (h:smallM vs ps ts):smallG vs ps:=⟨by have:=h.vl;omega,by have:=h.pl;omega,fun p hp=>by have:=(h.p p hp).2.1;omega⟩
section
variable {vs:List Vrb} {ps:List Pcs} {ts:List Trn} (hM:smallM vs ps ts)
end
noncomputable def knB (vs:List Vrb) (ps:List Pcs) (ts:List Trn) (e:List Trm):Bool:=(M37 vs ps ts e).getD false
theorem qbl (n:Int):∃ v,M73 n=some v:=⟨_,rfl⟩
theorem qbm (b:Bool):∃ v,M76 b=some v:=by cases b<;>exact ⟨_,rfl⟩
theorem two_some (op a b:Int):∃ v,M78 op a b=some v:=by
 show ∃ v,T78 Ops.std M73 M76 op a b some=some v
 unfold T78
 simp only [qao,qaa]
 have hb:∀ n:Int,∃ v,(ob (M73 n) fun y=>some y)=some v:=fun n=>by obtain ⟨v,h⟩:=qbl n;exact ⟨v,by rw [h,ob_s]⟩
 have ht:∀ n:Bool,∃ v,(ob (M76 n) fun y=>some y)=some v:=fun n=>by obtain ⟨v,h⟩:=qbm n;exact ⟨v,by rw [h,ob_s]⟩
 have hc:∀ q x y:Bool,∃ v,(cond q (ob (M76 x) fun y=>some y) (ob (M76 y) fun y=>some y))=some v:=fun q x y=>by
  cases q
  ·exact ht y
  ·exact ht x
 repeat' (first | exact hb _ | exact ht _ | exact hc _ _ _ | split)
section
variable {vs:List Vrb} {ps:List Pcs} {ts:List Trn}
noncomputable abbrev evR (vs:List Vrb) (ps:List Pcs) (ts:List Trn) (s1 s2:List Int) (e:List Trm):=R34 M37 M74 M73 M75 M77 M76 M78 vs ps ts s1 s2 e
theorem eval_loop (s1 s2:List Int) (h1:s1.length=ps.length) (h2:s2.length=vs.length) (e:List Trm) (he:e.length≤30) (hk:∀ x∈e,knE vs ps ts x):∀ (t i n:Nat) (st:List Int),i+t=e.length→t<n→st.length≤i→∃ v,evR vs ps ts s1 s2 e n (.l0 i st)=some v
 | t,i,0,st,hi,hn,hs=>by omega
 | 0,i,n+1,st,hi,hn,hs=>by
   show ∃ v,T34 Ops.std _ _ _ _ _ _ _ vs ps ts s1 s2 e _ some _=some v
   unfold T34
   simp only [qai,qao,qak,qaa]
   rw [if_neg (by omega)]
   by_cases h0:((st.length:Nat):Int)=0
   ·rw [if_pos h0];exact ⟨_,rfl⟩
   ·rw [if_neg h0,if_pos (by omega)];exact ⟨_,rfl⟩
 | t+1,i,n+1,st,hi,hn,hs=>by
   have ih:=fun st=>eval_loop s1 s2 h1 h2 e he hk t (i+1) n st (by omega) (by omega)
   obtain ⟨x,hx⟩:∃ x,e.getD i (Ty.dflt ty56)=x:=⟨_,rfl⟩
   have hm:x∈e:=by rw [←hx];exact getD_mem' (by omega) _
   obtain ⟨k2,k3⟩:=hk x hm
   show ∃ v,T34 Ops.std _ _ _ _ _ _ _ vs ps ts s1 s2 e _ some _=some v
   unfold T34
   simp only [qai,qao,qak,qay,qaa,qaf,hx,mt,List.length_cons,List.length_nil,show IntKind.wrap IntKind.i64 ((i:Int)+1)=((i+1:Nat):Int) from qag (by omega)]
   rw [if_pos (by omega),if_pos (by omega)]
   by_cases o1:x.1=1
   ·rw [if_pos o1,if_pos (by omega)];exact ih _ (by simp;omega)
   rw [if_neg o1]
   by_cases o2:x.1=2
   ·obtain ⟨k,hk1,hk2⟩:=k2 o2
    rw [if_pos o2,hk2,ob_s,if_pos (by omega)]
    obtain ⟨y,hy⟩:=qbl (s2.getD (Int.toNat (k:Int)) (Ty.dflt ty3))
    rw [hy,ob_s,if_pos (by omega)];exact ih _ (by simp;omega)
   rw [if_neg o2]
   by_cases o3:x.1=3
   ·obtain ⟨q,r,q1,q2,q3⟩:=k3 o3
    rw [if_pos o3,q2,ob_s,if_pos (by omega),q3,ob_s]
    obtain ⟨y,hy⟩:=qbm (decide (s1.getD (Int.toNat (q:Int)) (Ty.dflt ty3)=r))
    rw [hy,ob_s,if_pos (by omega)];exact ih _ (by simp;omega)
   rw [if_neg o3]
   by_cases o4:x.1=4
   ·rw [if_pos o4]
    by_cases hl:((st.length:Nat):Int)<1
    ·rw [if_pos hl];exact ⟨_,rfl⟩
    ·have hw1:IntKind.wrap IntKind.i64 ((st.length:Int)-1)=((st.length-1:Nat):Int):=by rw [wrap64 (by omega) (by omega)];omega
     simp only [hw1,qaf]
     obtain ⟨y,hy⟩:=qbm (decide (st.getD (st.length-1) (Ty.dflt ty3)=0))
     rw [if_neg hl,if_pos trivial,if_pos (by omega),if_pos (by omega),hy,ob_s,if_pos (by omega),if_pos (by simp;omega)]
     exact ih _ (by simp;omega)
   rw [if_neg o4]
   by_cases o5:x.1=5
   ·rw [if_pos o5]
    by_cases hl:((st.length:Nat):Int)<1
    ·rw [if_pos hl];exact ⟨_,rfl⟩
    ·have hw1:IntKind.wrap IntKind.i64 ((st.length:Int)-1)=((st.length-1:Nat):Int):=by rw [wrap64 (by omega) (by omega)];omega
     simp only [hw1,qaf]
     obtain ⟨y,hy⟩:=qbl (IntKind.wrap IntKind.i64 (0-st.getD (st.length-1) (Ty.dflt ty3)))
     rw [if_neg hl,if_pos trivial,if_pos (by omega),if_pos (by omega),hy,ob_s,if_pos (by omega),if_pos (by simp;omega)]
     exact ih _ (by simp;omega)
   rw [if_neg o5]
   by_cases hl:((st.length:Nat):Int)<2
   ·rw [if_pos hl];exact ⟨_,rfl⟩
   ·have hw1:IntKind.wrap IntKind.i64 ((st.length:Int)-1)=((st.length-1:Nat):Int):=by rw [wrap64 (by omega) (by omega)];omega
    have hw2:IntKind.wrap IntKind.i64 ((st.length:Int)-2)=((st.length-2:Nat):Int):=by rw [wrap64 (by omega) (by omega)];omega
    simp only [hw1,hw2,qaf]
    obtain ⟨y,hy⟩:=two_some x.1 (st.getD (st.length-2) (Ty.dflt ty3)) (st.getD (st.length-1) (Ty.dflt ty3))
    rw [if_neg hl,if_pos trivial,if_pos (by omega),if_pos (by omega),if_pos (by omega),hy,ob_s,if_pos (by omega),if_pos (by simp;omega)]
    exact ih _ (by simp;omega)
theorem eval_ok (hg:smallG vs ps) (s1 s2:List Int) (e:List Trm) (he:shortE e):∃ v,M34 vs ps ts s1 s2 e=some v:=by
 show ∃ v,T34 Ops.std M37 M74 M73 M75 M77 M76 M78 vs ps ts s1 s2 e (evR vs ps ts s1 s2 e 1000000) some none=some v
 unfold T34
 obtain ⟨b,b1,b2⟩:=known_ok ts hg e he
 rw [b1,ob_s]
 cases hb:b with
 | false=>exact ⟨_,rfl⟩
 | true=>
 simp only [Bool.not_true,cond_false,qao,qbt,qaa]
 by_cases c1:((s1.length:Nat):Int)=((ps.length:Nat):Int)
 ·rw [if_neg (fun h=>h c1)]
  by_cases c2:((s2.length:Nat):Int)=((vs.length:Nat):Int)
  ·rw [if_neg (fun h=>h c2)]
   exact eval_loop s1 s2 (by omega) (by omega) e he.1 (b2 hb).2 e.length 0 1000000 [] (by omega) (by have:=he.1;omega) (by simp)
  ·rw [if_pos c2];exact ⟨_,rfl⟩
 ·rw [if_pos c1];exact ⟨_,rfl⟩
end
section
variable {vs:List Vrb} {ps:List Pcs} (ts:List Trn)
noncomputable abbrev ixV (vs:List Vrb):=R109 M110 vs
theorem ixV_loop (hv:vs.length≤100000) (s:List UInt8):∀ (t i n:Nat),i+t=vs.length→t<n→∃ r,ixV vs s n (.l0 (vs.length:Nat) i s)=some (r,s)∧R74 vs ps ts s n (.l0 i)=some r
 | t,i,0,hi,hn=>by omega
 | 0,i,n+1,hi,hn=>by
   show ∃ r,T109 Ops.std _ vs s _ some _=some (r,s)∧T74 Ops.std vs ps ts s _ some _=some r
   unfold T109 T74
   simp only [qai,qaa]
   rw [if_neg (by omega),if_neg (by omega)]
   exact ⟨_,rfl,rfl⟩
 | t+1,i,n+1,hi,hn=>by
   have ih:=ixV_loop hv s t (i+1) n (by omega) (by omega)
   have hc:∀ v:Vrb,M110 v.1 v.2.1 v.2.2.1 v.2.2.2 s=some (v.1 == s,s):=fun v=>rfl
   show ∃ r,T109 Ops.std _ vs s _ some _=some (r,s)∧T74 Ops.std vs ps ts s _ some _=some r
   unfold T109 T74
   simp only [qai,qak,qaa,qaf,show IntKind.wrap IntKind.i64 ((i:Int)+1)=((i+1:Nat):Int) from qag (by omega)]
   rw [if_pos (by omega),if_pos (by omega),if_pos (by omega),if_pos (by omega),hc,ob_s]
   dsimp only
   cases (vs.getD i (Ty.dflt ty108)).1 == s with
   | true=>exact ⟨_,rfl,rfl⟩
   | false=>exact ih
theorem qch (hv:vs.length≤100000) (s:List UInt8):M68 vs ps ts s=M74 vs ps ts s:=by
 obtain ⟨r,h1,h2⟩:=ixV_loop (ps:=ps) ts hv s vs.length 0 1000000 (by omega) (by omega)
 have e1:M109 vs s=some (r,s):=by
  show T109 Ops.std M110 vs s (ixV vs s 1000000) some none=_
  unfold T109
  exact h1
 have e2:M74 vs ps ts s=some r:=by
  show T74 Ops.std vs ps ts s (R74 vs ps ts s 1000000) some none=_
  unfold T74
  exact h2
 show T68 Ops.std M110 M109 vs ps ts s some=_
 unfold T68
 rw [e1,ob_s,e2]
noncomputable abbrev ixP (ps:List Pcs):=R111 M112 ps
theorem ixP_loop (hv:ps.length≤100000) (s:List UInt8):∀ (t i n:Nat),i+t=ps.length→t<n→∃ r,ixP ps s n (.l0 (ps.length:Nat) i s)=some (r,s)∧R75 vs ps ts s n (.l0 i)=some r
 | t,i,0,hi,hn=>by omega
 | 0,i,n+1,hi,hn=>by
   show ∃ r,T111 Ops.std _ ps s _ some _=some (r,s)∧T75 Ops.std vs ps ts s _ some _=some r
   unfold T111 T75
   simp only [qai,qaa]
   rw [if_neg (by omega),if_neg (by omega)]
   exact ⟨_,rfl,rfl⟩
 | t+1,i,n+1,hi,hn=>by
   have ih:=ixP_loop hv s t (i+1) n (by omega) (by omega)
   have hc:∀ v:Pcs,M112 v.1 v.2 s=some (v.1 == s,s):=fun v=>rfl
   show ∃ r,T111 Ops.std _ ps s _ some _=some (r,s)∧T75 Ops.std vs ps ts s _ some _=some r
   unfold T111 T75
   simp only [qai,qak,qaa,qaf,show IntKind.wrap IntKind.i64 ((i:Int)+1)=((i+1:Nat):Int) from qag (by omega)]
   rw [if_pos (by omega),if_pos (by omega),if_pos (by omega),if_pos (by omega),hc,ob_s]
   dsimp only
   cases (ps.getD i (Ty.dflt ty73)).1 == s with
   | true=>exact ⟨_,rfl,rfl⟩
   | false=>exact ih
theorem ixS_loop (hl:okLocs ps) (p:Nat) (hp:p<ps.length) (s:List UInt8):∀ (t i n:Nat),i+t=(ps.getD p (Ty.dflt ty73)).2.length→t<n→
  R113 (ps.getD p (Ty.dflt ty73)).2 s n (.l0 ((ps.getD p (Ty.dflt ty73)).2.length:Nat) i)=R77 vs ps ts p s n (.l0 i)
 | t,i,0,hi,hn=>by omega
 | 0,i,n+1,hi,hn=>by
   show T113 Ops.std _ s _ some _=T77 Ops.std vs ps ts p s _ some _
   unfold T113 T77
   simp only [qai,qak,qaa,qaf]
   rw [if_neg (by omega),if_pos (by omega),if_neg (by omega)]
 | t+1,i,n+1,hi,hn=>by
   have ih:=ixS_loop hl p hp s t (i+1) n (by omega) (by omega)
   have hg:=hl.get p hp
   show T113 Ops.std _ s _ some _=T77 Ops.std vs ps ts p s _ some _
   unfold T113 T77
   simp only [qai,qak,qaa,qaf,show IntKind.wrap IntKind.i64 ((i:Int)+1)=((i+1:Nat):Int) from qag (by omega)]
   rw [if_pos (by omega),if_pos (by omega),if_pos (by omega),if_pos (by omega),if_pos (by omega),if_pos (by omega)]
   rw [show (s == (ps.getD p (Ty.dflt ty73)).2.getD i (Ty.dflt Ty.str))=((ps.getD p (Ty.dflt ty73)).2.getD i (Ty.dflt Ty.str) == s) from Bool.beq_comm]
   generalize ((ps.getD p (Ty.dflt ty73)).2.getD i (Ty.dflt Ty.str) == s)=b
   cases b with
   | true=>rfl
   | false=>exact ih
theorem place_eq (hg:smallG vs ps) (s l:List UInt8):∃ q r,M75 vs ps ts s=some q∧M77 vs ps ts q l=some r∧M69 vs ps ts s l=some (q,r):=by
 obtain ⟨q,h1,h2⟩:=ixP_loop (vs:=vs) ts hg.p s ps.length 0 1000000 (by omega) (by have:=hg.p;omega)
 have e1:M111 ps s=some (q,s):=by
  show T111 Ops.std M112 ps s (ixP ps s 1000000) some none=_
  unfold T111
  exact h1
 have e2:M75 vs ps ts s=some q:=by
  show T75 Ops.std vs ps ts s (R75 vs ps ts s 1000000) some none=_
  unfold T75
  exact h2
 obtain ⟨q',q1,q2⟩:=qc9 vs ps ts hg.p s
 have:q'=q:=by rw [e2] at q1;exact (Option.some.inj q1).symm
 subst this
 obtain ⟨r,r1,_⟩:=place_ok vs ps ts hg.l q' q2 l
 refine ⟨q',r,e2,r1,?_⟩
 show T69 Ops.std M112 M111 M113 vs ps ts s l some=_
 unfold T69
 rw [e1,ob_s]
 simp only [qai,qak,qaa]
 rcases q2 with rfl | ⟨k,hk,rfl⟩
 ·rw [if_pos (by omega)]
  have:M77 vs ps ts (-1) l=some (-1):=by
   show T77 Ops.std vs ps ts (-1) l (R77 vs ps ts (-1) l 1000000) some none=_
   unfold T77
   simp only [qai,qaa]
   rw [if_pos (by omega)]
  rw [this] at r1
  rw [←Option.some.inj r1]
 ·rw [if_neg (by omega),if_pos (by omega),qaf]
  have e3:M113 (ps.getD k (Ty.dflt ty73)).2 l=M77 vs ps ts (k:Int) l:=by
   show T113 Ops.std (ps.getD k (Ty.dflt ty73)).2 l (R113 (ps.getD k (Ty.dflt ty73)).2 l 1000000) some none=T77 Ops.std vs ps ts (k:Int) l (R77 vs ps ts (k:Int) l 1000000) some none
   unfold T113 T77
   simp only [qai,qaa]
   rw [if_neg (by omega)]
   exact ixS_loop (vs:=vs) ts hg.l k hk l _ 0 1000000 (Nat.zero_add _) (by have:=hg.l.get k hk;omega)
  rw [e3,r1,ob_s]
noncomputable abbrev kxP (vs:List Vrb) (ps:List Pcs) (ts:List Trn) (e:List Trm):=R32 M68 M69 M22 vs ps ts e
noncomputable abbrev kxR (vs:List Vrb) (ps:List Pcs) (ts:List Trn) (e:List Trm):=R37 M74 M75 M77 M36 vs ps ts e
theorem qef (hg:smallG vs ps) (e:List Trm) (he:shortE e):∀ (t i n:Nat),i+t=e.length→t<n→kxP vs ps ts e n (.l0 (e.length:Nat) i)=kxR vs ps ts e n (.l0 i)
 | t,i,0,hi,hn=>by omega
 | 0,i,n+1,hi,hn=>by
   show T32 Ops.std _ _ _ vs ps ts e _ some _=T37 Ops.std _ _ _ _ vs ps ts e _ some _
   unfold T32 T37
   simp only [qai,qaa]
   rw [if_neg (by omega),if_neg (by omega),he.rtR,ob_s,qbb e (by have:=he.1;omega),ob_s]
 | t+1,i,n+1,hi,hn=>by
   have ih:=qef hg e he t (i+1) n (by omega) (by omega)
   have h30:=he.1
   obtain ⟨x,hx⟩:∃ x,e.getD i (Ty.dflt ty56)=x:=⟨_,rfl⟩
   obtain ⟨q,r,q1,r1,p1⟩:=place_eq ts hg x.2.2.1 x.2.2.2
   obtain ⟨v,v1,v2⟩:=qbu vs ps ts hg.v x.2.2.1
   show T32 Ops.std _ _ _ vs ps ts e _ some _=T37 Ops.std _ _ _ _ vs ps ts e _ some _
   unfold T32 T37
   simp only [qai,qak,qao,qaa,qaf,hx,qch ts hg.v,show IntKind.wrap IntKind.i64 ((i:Int)+1)=((i+1:Nat):Int) from qag (by omega)]
   have hin:(0:Int)≤(i:Int)∧(i:Int)<(e.length:Int):=by omega
   simp only [if_pos hin,if_pos hin.2]
   by_cases h2:x.1=2
   ·rw [if_pos h2,if_pos h2,v1,ob_s,ob_s]
    by_cases hv:v<0
    ·rw [if_pos hv,if_pos hv]
    ·rw [if_neg hv,if_neg hv,if_neg (by omega)];exact ih
   ·rw [if_neg h2,if_neg h2]
    by_cases h3:x.1=3
    ·rw [if_pos h3,if_pos h3,p1,ob_s,q1,ob_s,r1,ob_s]
     dsimp only
     by_cases hr:r<0
     ·rw [if_pos hr,if_pos hr]
     ·rw [if_neg hr,if_neg hr];exact ih
    ·rw [if_neg h3,if_neg h3];exact ih
theorem knownP_eq (hg:smallG vs ps) (e:List Trm) (he:shortE e):M32 vs ps ts e=some (knB vs ps ts e):=by
 obtain ⟨b,hb,_⟩:=known_ok ts hg e he
 have:M32 vs ps ts e=M37 vs ps ts e:=by
  show T32 Ops.std M68 M69 M22 vs ps ts e (kxP vs ps ts e 1000000) some none=T37 Ops.std M74 M75 M77 M36 vs ps ts e (kxR vs ps ts e 1000000) some none
  unfold T32 T37
  exact qef ts hg e he e.length 0 1000000 (by omega) (by have:=he.1;omega)
 rw [this]
 unfold knB
 rw [hb];rfl
theorem within_eq (n:Int):M70 n=M73 n:=by
 show T70 Ops.std n some=T73 Ops.std n some
 unfold T70 T73
 simp only [qai,ite_dec,cond_true,cond_false]
 congr 1
 (repeat' split)<;>omega
theorem truth_eq (b:Bool):M71 b=M76 b:=by cases b<;>rfl
theorem two_eq (op a b:Int):M72 op a b=M78 op a b:=by
 show T72 Ops.std M70 M71 op a b some=T78 Ops.std M73 M76 op a b some
 unfold T72 T78
 rw [show M70=M73 from funext within_eq,show M71=M76 from funext truth_eq]
noncomputable abbrev evP (vs:List Vrb) (ps:List Pcs) (ts:List Trn) (s1 s2:List Int) (e:List Trm):=R33 M32 M50 M68 M70 M69 M71 M72 vs ps ts s1 s2 e
theorem qe2 (hg:smallG vs ps) (s1 s2:List Int) (h1:s1.length=ps.length) (h2:s2.length=vs.length) (e:List Trm) (he:e.length≤30) (hk:∀ x∈e,knE vs ps ts x):∀ (t i n:Nat) (st:List Int),i+t=e.length→t<n→st.length≤i→fin30 e (eGo (e.drop i) st.length)=true→
  evP vs ps ts s1 s2 e n (.l0 (e.length:Nat) i st)=evR vs ps ts s1 s2 e n (.l0 i st)
 | t,i,0,st,hi,hn,hs,hf=>by omega
 | 0,i,n+1,st,hi,hn,hs,hf=>by
   rw [List.drop_eq_nil_of_le (by omega)] at hf
   simp only [eGo,fin30,Bool.and_eq_true,decide_eq_true_eq] at hf
   show T33 Ops.std _ _ _ _ _ _ _ vs ps ts s1 s2 e _ some _=T34 Ops.std _ _ _ _ _ _ _ vs ps ts s1 s2 e _ some _
   unfold T33 T34
   simp only [qai,qao,qak,qaa]
   rw [if_neg (by omega),if_pos (by omega),if_neg (by omega),if_neg (by omega)]
 | t+1,i,n+1,st,hi,hn,hs,hf=>by
   have ih:=fun st=>qe2 hg s1 s2 h1 h2 e he hk t (i+1) n st (by omega) (by omega)
   rw [qbj (Ty.dflt ty56) (by omega)] at hf
   obtain ⟨x,hx⟩:∃ x,e.getD i (Ty.dflt ty56)=x:=⟨_,rfl⟩
   have hm:x∈e:=by rw [←hx];exact getD_mem' (by omega) _
   rw [hx] at hf
   simp only [eGo] at hf
   have hmay:mayT x=true:=by
    cases h:mayT x with
    | true=>rfl
    | false=>rw [h] at hf;simp [fin30] at hf
   have hop:=mayT_op hmay
   obtain ⟨hb1,hb2⟩:=opE_le x.1
   have hd:¬ ((st.length:Nat):Int)<opE x.1:=fun h=>by rw [hmay] at hf;simp [h,fin30] at hf
   simp only [hmay,hd,Bool.not_true,decide_false,Bool.or_false,Bool.false_eq_true,if_false] at hf
   have ha:opE x.1=((opE x.1).toNat:Int):=by omega
   generalize (opE x.1).toNat=a at ha
   have ha2:a≤2:=by omega
   have hal:a≤st.length:=by omega
   have hnx:∀ y:Int,fin30 e (eGo (e.drop (i+1)) ((st.take (st.length-a)++[y]).length:Nat))=true:=fun y=>by
    rw [←hf,ha]
    congr 2
    simp;omega
   have hwa:IntKind.wrap IntKind.i64 ((st.length:Int)-(a:Int))=((st.length-a:Nat):Int):=by rw [wrap64 (by omega) (by omega)];omega
   show T33 Ops.std _ _ _ _ _ _ _ vs ps ts s1 s2 e _ some _=T34 Ops.std _ _ _ _ _ _ _ vs ps ts s1 s2 e _ some _
   unfold T33 T34
   simp only [qai,qao,qak,qay,qaa,qaf,hx,mt,qcc,ob_s,ha,hwa,qch ts hg.v,within_eq,truth_eq,two_eq,List.length_cons,List.length_nil,show IntKind.wrap IntKind.i64 ((i:Int)+1)=((i+1:Nat):Int) from qag (by omega)]
   have hin:(0:Int)≤(i:Int)∧(i:Int)<(e.length:Int):=by omega
   have hlim:∀ l:List Int,l.length≤st.length→(l.length+(0+1))*8≤140737488355328:=fun l h=>by omega
   have hit:(0:Int)≤((st.length-a:Nat):Int)∧((st.length-a:Nat):Int)<((st.length+1:Nat):Int):=by omega
   have htl:(st.take (st.length-a)).length≤st.length:=by rw [List.length_take];omega
   simp only [if_pos hin,if_pos hin.2]
   by_cases o1:x.1=1
   ·have h0:a=0:=by have e:opE x.1=0:=(congrArg opE o1).trans rfl;omega
    have et:st.take (st.length-a)=st:=by rw [h0];simp
    have n1:=hnx x.2.1
    rw [et] at n1
    rw [if_pos o1,if_pos o1,if_pos hit,et,if_pos (by omega),if_pos (by omega)]
    exact ih _ (by simp;omega) n1
   rw [if_neg o1,if_neg o1]
   by_cases o2:x.1=2
   ·have h0:a=0:=by have e:opE x.1=0:=(congrArg opE o2).trans rfl;omega
    have et:st.take (st.length-a)=st:=by rw [h0];simp
    obtain ⟨k,hk1,hk2⟩:=(hk x hm).1 o2
    obtain ⟨y,hy⟩:=qbl (s2.getD k (Ty.dflt ty3))
    have n1:=hnx y
    rw [et] at n1
    have hkin:(0:Int)≤(k:Int)∧(k:Int)<(s2.length:Int):=by omega
    rw [if_pos o2,if_pos o2,hk2,ob_s,ob_s,if_pos hkin,if_pos hkin,qaf,hy,ob_s,ob_s,if_pos hit,et,if_pos (by omega),if_pos (by omega)]
    exact ih _ (by simp;omega) n1
   rw [if_neg o2,if_neg o2]
   by_cases o3:x.1=3
   ·have h0:a=0:=by have e:opE x.1=0:=(congrArg opE o3).trans rfl;omega
    have et:st.take (st.length-a)=st:=by rw [h0];simp
    obtain ⟨q,r,q1,q2,q3⟩:=(hk x hm).2 o3
    obtain ⟨q',r',p1,p2,p3⟩:=place_eq ts hg x.2.2.1 x.2.2.2
    rw [q2] at p1
    have e1:=Option.some.inj p1
    subst e1
    rw [q3] at p2
    have e2:=Option.some.inj p2
    subst e2
    obtain ⟨y,hy⟩:=qbm (decide (s1.getD q (Ty.dflt ty3)=r))
    have n1:=hnx y
    rw [et] at n1
    have hqin:(0:Int)≤(q:Int)∧(q:Int)<(s1.length:Int):=by omega
    rw [if_pos o3,if_pos o3,p3,q2,ob_s,ob_s]
    dsimp only
    rw [if_pos hqin,if_pos hqin,q3,ob_s,qaf,hy,ob_s,ob_s,if_pos hit,et,if_pos (by omega),if_pos (by omega)]
    exact ih _ (by simp;omega) n1
   rw [if_neg o3,if_neg o3]
   by_cases o4:x.1=4
   ·have h1:a=1:=by have e:opE x.1=1:=(congrArg opE o4).trans rfl;omega
    subst h1
    have hw1:IntKind.wrap IntKind.i64 ((st.length:Int)-1)=((st.length-1:Nat):Int):=by rw [wrap64 (by omega) (by omega)];omega
    obtain ⟨y,hy⟩:=qbm (decide (st.getD (st.length-1) (Ty.dflt ty3)=0))
    simp only [hw1,qaf,hy,ob_s]
    have hi1:(0:Int)≤((st.length-1:Nat):Int)∧((st.length-1:Nat):Int)<(st.length:Int):=by omega
    rw [if_pos o4,if_pos o4,if_pos hi1,if_pos hit,if_pos (by omega),if_neg (by omega),if_pos trivial,if_pos hit,if_pos hi1,if_pos (by omega),if_pos (by omega)]
    exact ih _ (by simp;omega) (hnx y)
   rw [if_neg o4,if_neg o4]
   by_cases o5:x.1=5
   ·have h1:a=1:=by have e:opE x.1=1:=(congrArg opE o5).trans rfl;omega
    subst h1
    have hw1:IntKind.wrap IntKind.i64 ((st.length:Int)-1)=((st.length-1:Nat):Int):=by rw [wrap64 (by omega) (by omega)];omega
    obtain ⟨y,hy⟩:=qbl (IntKind.wrap IntKind.i64 (0-st.getD (st.length-1) (Ty.dflt ty3)))
    simp only [hw1,qaf,hy,ob_s]
    have hi1:(0:Int)≤((st.length-1:Nat):Int)∧((st.length-1:Nat):Int)<(st.length:Int):=by omega
    rw [if_pos o5,if_pos o5,if_pos hi1,if_pos hit,if_pos (by omega),if_neg (by omega),if_pos trivial,if_pos hit,if_pos hi1,if_pos (by omega),if_pos (by omega)]
    exact ih _ (by simp;omega) (hnx y)
   rw [if_neg o5,if_neg o5]
   have h2':a=2:=by
    unfold opE at ha
    split at ha
    ·omega
    ·rw [if_neg (by omega),if_neg (by omega)] at ha;omega
   subst h2'
   have hw1:IntKind.wrap IntKind.i64 ((st.length:Int)-1)=((st.length-1:Nat):Int):=by rw [wrap64 (by omega) (by omega)];omega
   have hw2:IntKind.wrap IntKind.i64 ((st.length:Int)-2)=((st.length-2:Nat):Int):=by rw [wrap64 (by omega) (by omega)];omega
   have hw3:IntKind.wrap IntKind.i64 (((st.length-2:Nat):Int)+1)=((st.length-1:Nat):Int):=by rw [wrap64 (by omega) (by omega)];omega
   obtain ⟨y,hy⟩:=two_some x.1 (st.getD (st.length-2) (Ty.dflt ty3)) (st.getD (st.length-1) (Ty.dflt ty3))
   simp only [hw1,hw2,hw3,qaf,hy,ob_s]
   have hi1:(0:Int)≤((st.length-1:Nat):Int)∧((st.length-1:Nat):Int)<(st.length:Int):=by omega
   have hi2:(0:Int)≤((st.length-2:Nat):Int)∧((st.length-2:Nat):Int)<(st.length:Int):=by omega
   rw [if_pos hi2,if_pos hi1,if_pos hit,if_pos (by omega),if_neg (by omega),if_pos trivial,if_pos hit,if_pos hi2,if_pos hi1,if_pos (by omega),if_pos (by omega)]
   exact ih _ (by simp;omega) (hnx y)
theorem evalP_eq (hg:smallG vs ps) (s1 s2:List Int) (e:List Trm) (he:shortE e):M33 vs ps ts s1 s2 e=M34 vs ps ts s1 s2 e:=by
 show T33 Ops.std M32 M50 M68 M70 M69 M71 M72 vs ps ts s1 s2 e (evP vs ps ts s1 s2 e 1000000) some none=T34 Ops.std M37 M74 M73 M75 M77 M76 M78 vs ps ts s1 s2 e (evR vs ps ts s1 s2 e 1000000) some none
 unfold T33 T34
 obtain ⟨b,b1,b2⟩:=known_ok ts hg e he
 have e1:knB vs ps ts e=b:=by unfold knB;rw [b1];rfl
 rw [knownP_eq ts hg e he,ob_s,b1,ob_s,e1]
 cases hb:b with
 | false=>rfl
 | true=>
   simp only [Bool.not_true,cond_false,qao,qbt,qaa]
   by_cases c1:((s1.length:Nat):Int)=((ps.length:Nat):Int)
   ·rw [if_neg (fun h=>h c1)]
    by_cases c2:((s2.length:Nat):Int)=((vs.length:Nat):Int)
    ·rw [if_neg (fun h=>h c2),if_neg (fun h=>h c1),if_neg (fun h=>h c2)]
     exact qe2 ts hg s1 s2 (by omega) (by omega) e he.1 (b2 hb).2 e.length 0 1000000 [] (by omega) (by have:=he.1;omega) (by simp) (b2 hb).1
    ·rw [if_pos c2,if_neg (fun h=>h c1),if_pos c2]
   ·rw [if_pos c1,if_pos c1]
end
abbrev tkD (l:List Tok) (a:Nat):Tok:=l.getD a (Ty.dflt ty85)
def isS (l:List Tok) (a:Nat) (w:List UInt8):Bool:=decide ((tkD l a).1=4) && ((tkD l a).2.1 == w)
def sgW (w:List UInt8):Int×Nat:=
 if w=[42] then (6,5) else if w=[43] then (7,4) else if w=[45] then (8,4) else if w=[60] then (9,3) else if w=[60,61] then (10,3) else if w=[62] then (11,3) else if w=[62,61] then (12,3) else if w=[61,61] then (13,3) else if w=[33,61] then (14,3) else if w=[38,38] then (15,2) else if w=[124,124] then (16,1) else (0,0)
def sgE (l:List Tok) (a:Nat):Int×Nat:=if (tkD l a).1=4 then sgW (tkD l a).2.1 else (0,0)
theorem sgW_cases (w:List UInt8):sgW w=(0,0)∨(6≤(sgW w).1∧(sgW w).1≤16):=by
 unfold sgW
 (repeat' split)<;>decide
theorem sgE_op {l:List Tok} {a n:Nat} (h:(sgE l a).2=n) (hn:1≤n):6≤(sgE l a).1∧(sgE l a).1≤16∧(tkD l a).1=4:=by
 unfold sgE at h ⊢
 by_cases hk:(tkD l a).1=4
 ·rw [if_pos hk] at h ⊢
  rcases sgW_cases (tkD l a).2.1 with hc | hc
  ·rw [hc] at h;have h:0=n:=h;omega
  ·exact ⟨hc.1,hc.2,hk⟩
 ·rw [if_neg hk] at h;have h:0=n:=h;omega
theorem mayN {n:Int} (h:0≤n∧n≤999):mayT (1,n,[],[])=true:=by simp [mayT,h]
theorem mayV {w:List UInt8} (h:isWordP w=true):mayT (2,0,w,[])=true:=by simp [mayT,h]
theorem mayA {w v:List UInt8} (h:isWordP w=true) (h2:isWordP v=true):mayT (3,0,w,v)=true:=by simp [mayT,h,h2]
inductive PS where
 | lv (n a:Nat)
 | lp (n b:Nat) (e:List Trm)
 | un (a:Nat)
inductive PR where
 | ok (b:Nat) (e:List Trm)
 | bad (k:Nat)
def onOk (r:Option PR) (f:Nat→List Trm→Option PR):Option PR:=match r with
 | some (.ok b e)=>f b e
 | some (.bad k)=>some (.bad k)
 | none=>none
def go (l:List Tok):Nat→PS→Option PR
 | 0,_=>none
 | d+1,.lv n a=>if n=6 then go l d (.un a) else onOk (go l d (.lv (n+1) a)) fun b e=>go l d (.lp n b e)
 | d+1,.lp n b e=>if (sgE l b).2=n then onOk (go l d (.lv (n+1) (b+1))) fun c e2=>if n=3 then some (.ok c (e++e2++[((sgE l b).1,0,[],[])])) else go l d (.lp n c (e++e2++[((sgE l b).1,0,[],[])])) else some (.ok b e)
 | d+1,.un a=>
   if isS l a [33] then onOk (go l d (.un (a+1))) fun b e=>some (.ok b (e++[(4,0,[],[])]))
   else if isS l a [45] then onOk (go l d (.un (a+1))) fun b e=>some (.ok b (e++[(5,0,[],[])]))
   else if (tkD l a).1=1 then some (.ok (a+1) [(1,(tkD l a).2.2.1,[],[])])
   else if (tkD l a).1=2 then if isS l (a+1) [64] then if (tkD l (a+2)).1=2 then some (.ok (a+3) [(3,0,(tkD l a).2.1,(tkD l (a+2)).2.1)]) else some (.bad (a+2)) else some (.ok (a+1) [(2,0,(tkD l a).2.1,[])])
   else if isS l a [40] then onOk (go l d (.lv 1 (a+1))) fun b e=>if isS l b [41] then some (.ok (b+1) e) else some (.bad b)
   else some (.bad a)
def PE (l:List Tok) (s:PS) (r:PR):Prop:=∃ d0,∀ d,d0≤d→go l d s=some r
theorem PE.run {l:List Tok} {s:PS} {r:PR} (h:PE l s r):∃ d,go l d s=some r:=by
 obtain ⟨d,h⟩:=h
 exact ⟨d,h d (Nat.le_refl _)⟩
section
variable {l:List Tok}
theorem pe1 {s:PS} {r:PR} (h:∀ d,go l (d+1) s=some r):PE l s r:=⟨1,fun d hd=>by
 obtain ⟨g,rfl⟩:∃ g,d=g+1:=⟨d-1,by omega⟩
 exact h g⟩
theorem pe2 {s s1:PS} {r r1:PR} (h1:PE l s1 r1) (h:∀ d,go l d s1=some r1→go l (d+1) s=some r):PE l s r:=by
 obtain ⟨d0,h1⟩:=h1
 exact ⟨d0+1,fun d hd=>by
  obtain ⟨g,rfl⟩:∃ g,d=g+1:=⟨d-1,by omega⟩
  exact h g (h1 g (by omega))⟩
theorem pe3 {s s1 s2:PS} {r r1 r2:PR} (h1:PE l s1 r1) (h2:PE l s2 r2) (h:∀ d,go l d s1=some r1→go l d s2=some r2→go l (d+1) s=some r):PE l s r:=by
 obtain ⟨d1,h1⟩:=h1
 obtain ⟨d2,h2⟩:=h2
 exact ⟨d1+d2+1,fun d hd=>by
  obtain ⟨g,rfl⟩:∃ g,d=g+1:=⟨d-1,by omega⟩
  exact h g (h1 g (by omega)) (h2 g (by omega))⟩
theorem pe_six {a:Nat} {r:PR} (h:PE l (.un a) r):PE l (.lv 6 a) r:=pe2 h fun d h=>by rw [go,if_pos rfl,h]
theorem pe_bad {n a k:Nat} (hn:n≠6) (h:PE l (.lv (n+1) a) (.bad k)):PE l (.lv n a) (.bad k):=pe2 h fun d h=>by rw [go,if_neg hn,h];rfl
theorem pe_lv {n a b:Nat} {e:List Trm} {r:PR} (hn:n≠6) (h:PE l (.lv (n+1) a) (.ok b e)) (h2:PE l (.lp n b e) r):PE l (.lv n a) r:=pe3 h h2 fun d h h2=>by rw [go,if_neg hn,h];exact h2
theorem pe_stop {n b:Nat} {e:List Trm} (h:(sgE l b).2≠n):PE l (.lp n b e) (.ok b e):=pe1 fun d=>by rw [go,if_neg h]
theorem pe_lpbad {n b k:Nat} {e:List Trm} (hs:(sgE l b).2=n) (h:PE l (.lv (n+1) (b+1)) (.bad k)):PE l (.lp n b e) (.bad k):=pe2 h fun d h=>by rw [go,if_pos hs,h];rfl
theorem pe_three {b c:Nat} {e e2:List Trm} (hs:(sgE l b).2=3) (h:PE l (.lv 4 (b+1)) (.ok c e2)):PE l (.lp 3 b e) (.ok c (e++e2++[((sgE l b).1,0,[],[])])):=pe2 h fun d h=>by rw [go,if_pos hs,h];rfl
theorem pe_more {n b c:Nat} {e e2:List Trm} {r:PR} (hn:n≠3) (hs:(sgE l b).2=n) (h:PE l (.lv (n+1) (b+1)) (.ok c e2)) (h2:PE l (.lp n c (e++e2++[((sgE l b).1,0,[],[])])) r):PE l (.lp n b e) r:=pe3 h h2 fun d h h2=>by
 rw [go,if_pos hs,h]
 show (if n=3 then _ else _)=_
 rw [if_neg hn,h2]
theorem pe_not {a b:Nat} {e:List Trm} (hs:isS l a [33]=true) (h:PE l (.un (a+1)) (.ok b e)):PE l (.un a) (.ok b (e++[(4,0,[],[])])):=pe2 h fun d h=>by rw [go,if_pos hs,h];rfl
theorem pe_notb {a k:Nat} (hs:isS l a [33]=true) (h:PE l (.un (a+1)) (.bad k)):PE l (.un a) (.bad k):=pe2 h fun d h=>by rw [go,if_pos hs,h];rfl
theorem qe3 {a:Nat} {w v:List UInt8} (h:isS l a w=true) (hv:w≠v):¬ isS l a v=true:=fun h2=>by
 unfold isS at h h2
 simp only [Bool.and_eq_true,decide_eq_true_eq,beq_iff_eq] at h h2
 exact hv (h.2.symm.trans h2.2)
theorem qdt {a:Nat} {w:List UInt8} (h:(tkD l a).1≠4):¬ isS l a w=true:=fun h2=>by
 unfold isS at h2
 simp only [Bool.and_eq_true,decide_eq_true_eq] at h2
 exact h h2.1
theorem qda {a:Nat} {w:List UInt8} (h:isS l a w=true):(tkD l a).1=4:=by
 unfold isS at h
 simp only [Bool.and_eq_true,decide_eq_true_eq] at h
 exact h.1
theorem pe_neg {a b:Nat} {e:List Trm} (hs:isS l a [45]=true) (h:PE l (.un (a+1)) (.ok b e)):PE l (.un a) (.ok b (e++[(5,0,[],[])])):=pe2 h fun d h=>by rw [go,if_neg (qe3 hs (by decide)),if_pos hs,h];rfl
theorem pe_negb {a k:Nat} (hs:isS l a [45]=true) (h:PE l (.un (a+1)) (.bad k)):PE l (.un a) (.bad k):=pe2 h fun d h=>by rw [go,if_neg (qe3 hs (by decide)),if_pos hs,h];rfl
theorem pe_num {a:Nat} (hk:(tkD l a).1=1):PE l (.un a) (.ok (a+1) [(1,(tkD l a).2.2.1,[],[])]):=pe1 fun d=>by
 rw [go,if_neg (qdt (by rw [hk];decide)),if_neg (qdt (by rw [hk];decide)),if_pos hk]
theorem pe_word {a:Nat} (hk:(tkD l a).1=2):PE l (.un a) (if isS l (a+1) [64] then if (tkD l (a+2)).1=2 then .ok (a+3) [(3,0,(tkD l a).2.1,(tkD l (a+2)).2.1)] else .bad (a+2) else .ok (a+1) [(2,0,(tkD l a).2.1,[])]):=pe1 fun d=>by
 rw [go,if_neg (qdt (by rw [hk];decide)),if_neg (qdt (by rw [hk];decide)),if_neg (by rw [hk];decide),if_pos hk]
 (repeat' split)<;>rfl
theorem pe_brab {a k:Nat} (hs:isS l a [40]=true) (h:PE l (.lv 1 (a+1)) (.bad k)):PE l (.un a) (.bad k):=pe2 h fun d h=>by
 rw [go,if_neg (qe3 hs (by decide)),if_neg (qe3 hs (by decide)),if_neg (by rw [qda hs];decide),if_neg (by rw [qda hs];decide),if_pos hs,h];rfl
theorem pe_bra {a b:Nat} {e:List Trm} (hs:isS l a [40]=true) (h:PE l (.lv 1 (a+1)) (.ok b e)):PE l (.un a) (if isS l b [41] then .ok (b+1) e else .bad b):=pe2 h fun d h=>by
 rw [go,if_neg (qe3 hs (by decide)),if_neg (qe3 hs (by decide)),if_neg (by rw [qda hs];decide),if_neg (by rw [qda hs];decide),if_pos hs,h]
 show (if _ then _ else _)=_
 split<;>rfl
theorem pe_none {a:Nat} (h1:¬ isS l a [33]=true) (h2:¬ isS l a [45]=true) (h3:(tkD l a).1≠1) (h4:(tkD l a).1≠2) (h5:¬ isS l a [40]=true):PE l (.un a) (.bad a):=pe1 fun d=>by
 rw [go,if_neg h1,if_neg h2,if_neg h3,if_neg h4,if_neg h5]
def PS.at:PS→Nat
 | .lv _ a=>a
 | .lp _ b _=>b
 | .un a=>a
def PS.lvl:PS→Nat
 | .lv n _=>n
 | .lp n _ _=>n
 | .un _=>6
def Bd (l:List Tok):PS→PR→Prop
 | .lp _ a e0,.ok b e=>a≤b∧b<l.length∧e.length≤e0.length+(b-a)∧(goodE e0→goodE e)
 | s,.ok b e=>s.at<b∧b<l.length∧e.length≤b-s.at∧goodE e
 | s,.bad k=>s.at≤k∧k<l.length
theorem qcr {r:Option PR} {f:Nat→List Trm→Option PR} {q:PR} (h:onOk r f=some q):(∃ b e,r=some (.ok b e)∧f b e=some q)∨∃ k,r=some (.bad k)∧q=.bad k:=by
 cases r with
 | none=>cases h
 | some x=>
   cases x with
   | ok b e=>exact .inl ⟨b,e,rfl,h⟩
   | bad k=>exact .inr ⟨k,rfl,(Option.some.inj h).symm⟩
theorem qdm (hl:toksOK l):∀ (d:Nat) (s:PS) (r:PR),1≤s.lvl→s.at<l.length→go l d s=some r→Bd l s r
 | 0,s,r,_,_,h=>by cases h
 | d+1,.lv n a,r,h1,ha,h=>by
   have ha:a<l.length:=ha
   have h1:1≤n:=h1
   rw [go] at h
   split at h
   ·have:=qdm hl d _ r (by show 1≤6;omega) (by exact ha) h
    cases r<;>exact this
   ·rcases qcr h with ⟨b,e,g1,g2⟩ | ⟨k,g1,rfl⟩
    ·obtain ⟨i1,i2,i3,i4⟩:=qdm hl d (.lv (n+1) a) _ (by show 1≤n+1;omega) (by exact ha) g1
     have i1:a<b:=i1
     have i3:e.length≤b-a:=i3
     have:=qdm hl d (.lp n b e) r h1 i2 g2
     cases r with
     | ok c e2=>
       obtain ⟨j1,j2,j3,j4⟩:=this
       exact ⟨by show a<c;omega,j2,by show e2.length≤c-a;omega,j4 i4⟩
     | bad k=>
       obtain ⟨j1,j2⟩:=this
       have j1:b≤k:=j1
       exact ⟨by show a≤k;omega,j2⟩
    ·exact qdm hl d (.lv (n+1) a) _ (by show 1≤n+1;omega) (by exact ha) g1
 | d+1,.lp n b e,r,h1,hb,h=>by
   have hb:b<l.length:=hb
   have h1:1≤n:=h1
   rw [go] at h
   split at h
   ·rename_i hs
    obtain ⟨o1,o2,o3⟩:=sgE_op hs h1
    have hb1:=qa0 hl hb (Ty.dflt ty85) (by rw [o3];decide)
    have hgood:∀ e2,goodE e2→goodE e→goodE (e++e2++[((sgE l b).1,0,[],[])]):=fun e2 h2 h=>h.bi h2 (may_op (by omega) o2) (by
     show opE (sgE l b).1=2
     unfold opE;(repeat' split)<;>omega)
    rcases qcr h with ⟨c,e2,g1,g2⟩ | ⟨k,g1,rfl⟩
    ·obtain ⟨i1,i2,i3,i4⟩:=qdm hl d (.lv (n+1) (b+1)) _ (by show 1≤n+1;omega) hb1 g1
     have i1:b+1<c:=i1
     have i3:e2.length≤c-(b+1):=i3
     split at g2
     ·cases g2
      exact ⟨by omega,i2,by simp;omega,hgood e2 i4⟩
     ·have:=qdm hl d (.lp n c _) r h1 i2 g2
      cases r with
      | ok c' e'=>
        obtain ⟨j1,j2,j3,j4⟩:=this
        simp only [List.length_append,List.length_cons,List.length_nil] at j3
        exact ⟨by omega,j2,by omega,fun h=>j4 (hgood e2 i4 h)⟩
      | bad k=>
        obtain ⟨j1,j2⟩:=this
        have j1:c≤k:=j1
        exact ⟨by show b≤k;omega,j2⟩
    ·obtain ⟨j1,j2⟩:=qdm hl d (.lv (n+1) (b+1)) _ (by show 1≤n+1;omega) hb1 g1
     have j1:b+1≤k:=j1
     exact ⟨by show b≤k;omega,j2⟩
   ·cases h
    exact ⟨Nat.le_refl _,hb,by omega,fun h=>h⟩
 | d+1,.un a,r,h1,ha,h=>by
   have ha:a<l.length:=ha
   obtain ⟨ht1,⟨ht2,ht3⟩,ht4⟩:=toks_at hl ha (Ty.dflt ty85)
   have hnx:=qa0 hl ha (Ty.dflt ty85)
   have pre:∀ (op:Int),(op=4∨op=5)→(tkD l a).1=4→onOk (go l d (.un (a+1))) (fun b e=>some (.ok b (e++[(op,0,[],[])])))=some r→Bd l (.un a) r:=fun op hop h4 h=>by
    have hb1:=hnx (by rw [h4];decide)
    rcases qcr h with ⟨c,e2,g1,g2⟩ | ⟨k,g1,rfl⟩
    ·obtain ⟨i1,i2,i3,i4⟩:=qdm hl d (.un (a+1)) _ (by show 1≤6;omega) hb1 g1
     have i1:a+1<c:=i1
     have i3:e2.length≤c-(a+1):=i3
     cases g2
     refine ⟨by show a<c;omega,i2,by show _≤c-a;simp;omega,i4.un (may_op (by omega) (by omega)) ?_⟩
     show opE op=1
     unfold opE;(repeat' split)<;>omega
    ·obtain ⟨j1,j2⟩:=qdm hl d (.un (a+1)) _ (by show 1≤6;omega) hb1 g1
     have j1:a+1≤k:=j1
     exact ⟨by show a≤k;omega,j2⟩
   rw [go] at h
   split at h
   ·rename_i hs;exact pre 4 (.inl rfl) (qda hs) h
   ·split at h
    ·rename_i hs;exact pre 5 (.inr rfl) (qda hs) h
    ·split at h
     ·rename_i hk
      have hb1:=hnx (by rw [hk];decide)
      have hn:=ht2 hk
      cases h
      refine ⟨by show a<a+1;omega,hb1,by show 1≤a+1-a;omega,goodE.nul (mayN hn) rfl⟩
     ·split at h
      ·rename_i hk
       have hb1:=hnx (by rw [hk];decide)
       have hn:=ht3 hk
       split at h
       ·rename_i hs
        have hb2:=qa0 hl hb1 (Ty.dflt ty85) (by rw [qda hs];decide)
        split at h
        ·rename_i hk2
         have hb3:=qa0 hl hb2 (Ty.dflt ty85) (by rw [hk2];decide)
         have hn2:=(toks_at hl hb2 (Ty.dflt ty85)).2.1.2 hk2
         cases h
         refine ⟨by show a<a+3;omega,hb3,by show 1≤a+3-a;omega,goodE.nul (mayA hn hn2) rfl⟩
        ·cases h
         exact ⟨by show a≤a+2;omega,hb2⟩
       ·cases h
        refine ⟨by show a<a+1;omega,hb1,by show 1≤a+1-a;omega,goodE.nul (mayV hn) rfl⟩
      ·split at h
       ·rename_i hs
        have hb1:=hnx (by rw [qda hs];decide)
        rcases qcr h with ⟨c,e2,g1,g2⟩ | ⟨k,g1,rfl⟩
        ·obtain ⟨i1,i2,i3,i4⟩:=qdm hl d (.lv 1 (a+1)) _ (Nat.le_refl 1) hb1 g1
         have i1:a+1<c:=i1
         have i3:e2.length≤c-(a+1):=i3
         split at g2
         ·rename_i hs2
          have hb2:=qa0 hl i2 (Ty.dflt ty85) (by rw [qda hs2];decide)
          cases g2
          exact ⟨by show a<c+1;omega,hb2,by show _≤c+1-a;omega,i4⟩
         ·cases g2
          exact ⟨by show a≤c;omega,i2⟩
        ·obtain ⟨j1,j2⟩:=qdm hl d (.lv 1 (a+1)) _ (Nat.le_refl 1) hb1 g1
         have j1:a+1≤k:=j1
         exact ⟨by show a≤k;omega,j2⟩
       ·cases h
        exact ⟨Nat.le_refl _,ha⟩
theorem PE.bd {s:PS} {r:PR} (h:PE l s r) (hl:toksOK l) (h1:1≤s.lvl) (ha:s.at<l.length):Bd l s r:=by
 obtain ⟨d,h⟩:=h.run
 exact qdm hl d s r h1 ha h
end
abbrev TokS:=Int×List UInt8×Int
def strip (t:Tok):TokS:=(t.1,t.2.1,t.2.2.1)
def LexTo (s r:List UInt8) (ts:List TokS):Prop:=
 ∀ (f a:Nat) (out:List Tok),(s++r).length<f→∃ (f':Nat) (tks:List Tok),tks.map strip=ts∧r.length<f'∧lexGo f (s++r) a out=lexGo f' r (a+s.length) (out++tks)
theorem LexTo.nil (r:List UInt8):LexTo [] r []:=fun f a out h=>⟨f,[],rfl,h,by simp⟩
theorem LexTo.app {s1 s2 r:List UInt8} {t1 t2:List TokS} (h1:LexTo s1 (s2++r) t1) (h2:LexTo s2 r t2):LexTo (s1++s2) r (t1++t2):=fun f a out h=>by
 rw [List.append_assoc] at h
 obtain ⟨f1,k1,e1,g1,q1⟩:=h1 f a out h
 obtain ⟨f2,k2,e2,g2,q2⟩:=h2 f1 (a+s1.length) (out++k1) g1
 refine ⟨f2,k1++k2,by rw [List.map_append,e1,e2],g2,?_⟩
 rw [List.append_assoc,q1,q2,List.length_append,List.append_assoc,Nat.add_assoc]
theorem LexTo.blank {b:UInt8} (hb:blankP b=true) (r:List UInt8):LexTo [b] r []:=fun f a out h=>by
 obtain ⟨g,rfl⟩:∃ g,f=g+1:=⟨f-1,by omega⟩
 refine ⟨g,[],rfl,by simp at h;omega,?_⟩
 simp only [List.cons_append,List.nil_append,lexGo,hb,if_true,List.length_cons,List.length_nil,List.append_nil]
theorem LexTo.tok {b:UInt8} {s r:List UInt8} {k n:Int} (ht:tokS (b::(s++r))=some (k,b::s,n)) (hb:blankP b=false):LexTo (b::s) r [(k,b::s,n)]:=fun f a out h=>by
 obtain ⟨g,rfl⟩:∃ g,f=g+1:=⟨f-1,by omega⟩
 refine ⟨g,[(k,b::s,n,(a:Int))],rfl,by simp at h;omega,?_⟩
 have hd:List.drop (b::s).length (b::(s++r))=r:=by
  rw [←List.cons_append,List.drop_left]
 simp only [List.cons_append,lexGo,hb,ht,Bool.false_eq_true,if_false,hd]
theorem qeg {b:UInt8} {r w:List UInt8} (h1:digitP' b=false) (h2:lowerP b=false) (h3:letterP b=false) (hs:signS (b::r)=w) (hw:w≠[]):tokS (b::r)=some (4,w,0):=by
 simp only [tokS,h1,h2,h3,hs,hw,Bool.false_eq_true,if_false]
theorem signS_two {p:List UInt8} {r:List UInt8} (h:p=[60,61]∨p=[62,61]∨p=[61,61]∨p=[33,61]∨p=[38,38]∨p=[124,124]∨p=[45,62]):signS (p++r)=p:=by
 rcases h with h | h | h | h | h | h | h<;>subst h<;>simp [signS,twos]
theorem qe4 {p:List UInt8} (r:List UInt8) (h:p=[60,61]∨p=[62,61]∨p=[61,61]∨p=[33,61]∨p=[38,38]∨p=[124,124]∨p=[45,62]):LexTo p r [(4,p,0)]:=by
 have hs:=signS_two (r:=r) h
 rcases h with h | h | h | h | h | h | h<;>subst h<;>exact LexTo.tok (qeg rfl rfl rfl hs (by simp)) rfl
theorem signS_one {c:UInt8} {r:List UInt8} (h:c=40∨c=41∨c=91∨c=93∨c=64):signS (c::r)=[c]:=by
 have h2:twos.find? (fun p=>decide (1<(c::r).length) && ((c::r).take 2 == p))=none:=by
  rw [List.find?_eq_none]
  intro p hp
  simp only [twos,List.mem_cons,List.not_mem_nil,or_false] at hp
  rcases h with h | h | h | h | h<;>subst h<;>rcases hp with hp | hp | hp | hp | hp | hp | hp<;>subst hp<;>simp
 unfold signS
 rw [h2]
 rcases h with h | h | h | h | h<;>subst h<;>simp [ones]
theorem lx_one {c:UInt8} (r:List UInt8) (h:c=40∨c=41∨c=91∨c=93∨c=64):LexTo [c] r [(4,[c],0)]:=by
 have hs:=signS_one (r:=r) h
 rcases h with h | h | h | h | h<;>subst h<;>exact LexTo.tok (s:=[]) (qeg rfl rfl rfl hs (by simp)) rfl
theorem signS_oneq {c d:UInt8} {r:List UInt8} (h:c=33∨c=60∨c=62) (hd:d≠61):signS (c::d::r)=[c]:=by
 have h2:twos.find? (fun p=>decide (1<(c::d::r).length) && ((c::d::r).take 2 == p))=none:=by
  rw [List.find?_eq_none]
  intro p hp
  simp only [twos,List.mem_cons,List.not_mem_nil,or_false] at hp
  rcases h with h | h | h<;>subst h<;>rcases hp with hp | hp | hp | hp | hp | hp | hp<;>subst hp<;>simp [hd]
 unfold signS
 rw [h2]
 rcases h with h | h | h<;>subst h<;>simp [ones]
theorem lx_oneq {c d:UInt8} (r:List UInt8) (h:c=33∨c=60∨c=62) (hd:d≠61):LexTo [c] (d::r) [(4,[c],0)]:=by
 have hs:=signS_oneq (r:=r) h hd
 rcases h with h | h | h<;>subst h<;>exact LexTo.tok (s:=[]) (qeg rfl rfl rfl hs (by simp)) rfl
theorem qb8 {c:UInt8} (r:List UInt8) (h:c=88∨c=70∨c=71∨c=85∨c=82):LexTo [c] r [(3,[c],0)]:=by
 rcases h with h | h | h | h | h<;>subst h<;>exact LexTo.tok (s:=[]) rfl rfl
def noWord (r:List UInt8):Prop:=∀ (b:UInt8) (q:List UInt8),r=b::q→wordP b=false
theorem noWord.nil:noWord []:=fun b q h=>by cases h
theorem noWord.cons {b:UInt8} {q:List UInt8} (h:wordP b=false):noWord (b::q):=fun c p e=>by cases e;exact h
theorem tw_app {p:UInt8→Bool}:∀ (w r:List UInt8),w.all p=true→(∀ b q,r=b::q→p b=false)→(w++r).takeWhile p=w
 | [],[],_,_=>rfl
 | [],b::q,_,h=>by rw [List.nil_append,List.takeWhile_cons,h b q rfl];rfl
 | a::w,r,ha,h=>by
   simp only [List.all_cons,Bool.and_eq_true] at ha
   rw [List.cons_append,List.takeWhile_cons,ha.1,if_pos rfl,tw_app w r ha.2 h]
theorem lx_word {b:UInt8} {w:List UInt8} (r:List UInt8) (hb:lowerP b=true) (hn:digitP' b=false) (hk:blankP b=false) (hw:w.all wordP=true) (hl:w.length<8) (hr:noWord r):LexTo (b::w) r [(2,b::w,0)]:=by
 refine LexTo.tok ?_ hk
 have ht:(b::(w++r)).takeWhile wordP=b::w:=by
  rw [←List.cons_append]
  exact tw_app (b::w) r (by rw [List.all_cons,hw];simp [wordP,hb]) hr
 simp only [tokS,hn,hb,ht,Bool.false_eq_true,if_false,if_true,List.length_cons]
 rw [if_pos (by omega)]
theorem lx_num {b:UInt8} (r:List UInt8) (hb:digitP' b=true) (hk:blankP b=false) (hr:noWord r):LexTo [b] r [(1,[b],valW [b])]:=by
 refine LexTo.tok (s:=[]) ?_ hk
 have ht:(b::([]++r)).takeWhile digitP'=[b]:=by
  have:=tw_app (p:=digitP') [b] r (by simp [hb]) (fun c q e=>by
   have:=hr c q e
   simp only [wordP,Bool.or_eq_false_iff] at this
   exact this.2)
  simpa using this
 simp only [tokS,hb,ht,if_true]
 rfl
inductive Sen where
 | con (b:Bool)
 | atm (i:Nat)
 | una (k:Int) (s:Sen)
 | bra (s:Sen)
 | bin (k:Int) (a b:Sen)
def unaW (k:Int):List UInt8:=if k=4 then [33] else if k=8 then [88,32] else if k=11 then [70,32] else [71,32]
def unaT (k:Int):TokS:=if k=4 then (4,[33],0) else if k=8 then (3,[88],0) else if k=11 then (3,[70],0) else (3,[71],0)
def binW (k:Int):List UInt8:=if k=5 then [32,38,38,32] else if k=6 then [32,124,124,32] else if k=7 then [32,45,62,32] else if k=9 then [32,85,32] else [32,82,32]
def binT (k:Int):TokS:=if k=5 then (4,[38,38],0) else if k=6 then (4,[124,124],0) else if k=7 then (4,[45,62],0) else if k=9 then (3,[85],0) else (3,[82],0)
def conW (b:Bool):List UInt8:=if b then [116,114,117,101] else [102,97,108,115,101]
def atmsW:List (List UInt8):=[[91,120,61,61,49,93],[91,112,64,97,93],[91,121,60,49,93],[91,113,64,98,38,38,120,62,48,93],[91,120,61,61,121,93],[91,112,64,98,93]]
def atmsT:List (List TokS):=[[(2,[120],0),(4,[61,61],0),(1,[49],1),(4,[93],0)],[(2,[112],0),(4,[64],0),(2,[97],0),(4,[93],0)],[(2,[121],0),(4,[60],0),(1,[49],1),(4,[93],0)],
 [(2,[113],0),(4,[64],0),(2,[98],0),(4,[38,38],0),(2,[120],0),(4,[62],0),(1,[48],0),(4,[93],0)],[(2,[120],0),(4,[61,61],0),(2,[121],0),(4,[93],0)],[(2,[112],0),(4,[64],0),(2,[98],0),(4,[93],0)]]
def Sen.text:Sen→List UInt8
 | .con b=>conW b
 | .atm i=>atmsW.getD i []
 | .una k s=>unaW k++s.text
 | .bra s=>[40]++(s.text++[41])
 | .bin k a b=>a.text++(binW k++b.text)
def Sen.toks:Sen→List TokS
 | .con b=>[(2,conW b,0)]
 | .atm i=>(4,[91],0)::atmsT.getD i []
 | .una k s=>unaT k::s.toks
 | .bra s=>(4,[40],0)::(s.toks++[(4,[41],0)])
 | .bin k a b=>a.toks++(binT k::b.toks)
def lvK (k:Int):Nat:=if k=7 then 1 else if k=6 then 2 else if k=5 then 3 else 4
def Sen.lv:Sen→Nat
 | .bin k _ _=>lvK k
 | _=>5
def unaK (k:Int):Prop:=k=4∨k=8∨k=11∨k=12
def binK (k:Int):Prop:=k=5∨k=6∨k=7∨k=9∨k=10
def Sen.ok:Sen→Prop
 | .con _=>True
 | .atm i=>i<6
 | .una k s=>unaK k∧s.lv=5∧s.ok
 | .bra s=>s.ok
 | .bin k a b=>binK k∧lvK k<a.lv∧lvK k≤b.lv∧(lvK k=b.lv→lvK k=1∨lvK k=4)∧a.ok∧b.ok
theorem Sen.head:∀ s:Sen,s.ok→∃ (d:UInt8) (q:List UInt8),s.text=d::q∧d≠61
 | .con b,_=>by cases b<;>exact ⟨_,_,rfl,by decide⟩
 | .atm i,h=>by
   have h:i<6:=h
   match i,h with
   | 0,_ | 1,_ | 2,_ | 3,_ | 4,_ | 5,_=>exact ⟨_,_,rfl,by decide⟩
 | .una k s,h=>by
   obtain ⟨h1,_,_⟩:=h
   rcases h1 with rfl | rfl | rfl | rfl<;>exact ⟨_,_,rfl,by decide⟩
 | .bra s,_=>⟨_,_,rfl,by decide⟩
 | .bin k a b,h=>by
   obtain ⟨d,q,e,hd⟩:=a.head h.2.2.2.2.1
   exact ⟨d,q++(binW k++b.text),by simp only [Sen.text,e,List.cons_append],hd⟩
theorem lx_una {k:Int} (hk:unaK k) {s r:List UInt8} (hs:∃ (d:UInt8) (q:List UInt8),s=d::q∧d≠61):LexTo (unaW k) (s++r) [unaT k]:=by
 obtain ⟨d,q,rfl,hd⟩:=hs
 rcases hk with rfl | rfl | rfl | rfl
 ·exact lx_oneq (q++r) (.inl rfl) hd
 ·exact (qb8 _ (.inl rfl)).app (LexTo.blank (b:=32) rfl _)
 ·exact (qb8 _ (.inr (.inl rfl))).app (LexTo.blank (b:=32) rfl _)
 ·exact (qb8 _ (.inr (.inr (.inl rfl)))).app (LexTo.blank (b:=32) rfl _)
theorem lx_bin {k:Int} (hk:binK k) (r:List UInt8):LexTo (binW k) r [binT k]:=by
 have bl:=fun r=>LexTo.blank (b:=32) rfl r
 rcases hk with rfl | rfl | rfl | rfl | rfl
 ·exact (bl _).app ((qe4 (p:=[38,38]) _ (by simp)).app (bl _))
 ·exact (bl _).app ((qe4 (p:=[124,124]) _ (by simp)).app (bl _))
 ·exact (bl _).app ((qe4 (p:=[45,62]) _ (by simp)).app (bl _))
 ·exact (bl _).app ((qb8 (c:=85) _ (by simp)).app (bl _))
 ·exact (bl _).app ((qb8 (c:=82) _ (by simp)).app (bl _))
theorem noWord.bin {k:Int} (hk:binK k) (r:List UInt8):noWord (binW k++r):=by
 rcases hk with rfl | rfl | rfl | rfl | rfl<;>exact noWord.cons rfl
theorem lx_con (b:Bool) {r:List UInt8} (hr:noWord r):LexTo (conW b) r [(2,conW b,0)]:=by
 cases b
 ·exact lx_word r rfl rfl rfl rfl (by decide) hr
 ·exact lx_word r rfl rfl rfl rfl (by decide) hr
theorem lx_w (c:UInt8) (r:List UInt8) (h:c=120∨c=121∨c=112∨c=113∨c=97∨c=98) (hr:noWord r):LexTo [c] r [(2,[c],0)]:=by
 rcases h with rfl | rfl | rfl | rfl | rfl | rfl<;>exact lx_word r rfl rfl rfl rfl (by decide) hr
theorem lx_atm {i:Nat} (hi:i<6) (r:List UInt8):LexTo (atmsW.getD i []) r ((4,[91],0)::atmsT.getD i []):=by
 have op:=fun r=>lx_one (c:=91) r (by simp)
 have cl:=lx_one (c:=93) r (by simp)
 have at_:=fun r=>lx_one (c:=64) r (by simp)
 match i,hi with
 | 0,_=>exact (op _).app ((lx_w 120 _ (by simp) (noWord.cons rfl)).app ((qe4 (p:=[61,61]) _ (by simp)).app ((lx_num (b:=49) _ rfl rfl (noWord.cons rfl)).app cl)))
 | 1,_=>exact (op _).app ((lx_w 112 _ (by simp) (noWord.cons rfl)).app ((at_ _).app ((lx_w 97 _ (by simp) (noWord.cons rfl)).app cl)))
 | 2,_=>exact (op _).app ((lx_w 121 _ (by simp) (noWord.cons rfl)).app ((lx_oneq (c:=60) _ (by simp) (by decide)).app ((lx_num (b:=49) _ rfl rfl (noWord.cons rfl)).app cl)))
 | 3,_=>exact (op _).app ((lx_w 113 _ (by simp) (noWord.cons rfl)).app ((at_ _).app ((lx_w 98 _ (by simp) (noWord.cons rfl)).app ((qe4 (p:=[38,38]) _ (by simp)).app ((lx_w 120 _ (by simp) (noWord.cons rfl)).app ((lx_oneq (c:=62) _ (by simp) (by decide)).app ((lx_num (b:=48) _ rfl rfl (noWord.cons rfl)).app cl)))))))
 | 4,_=>exact (op _).app ((lx_w 120 _ (by simp) (noWord.cons rfl)).app ((qe4 (p:=[61,61]) _ (by simp)).app ((lx_w 121 _ (by simp) (noWord.cons rfl)).app cl)))
 | 5,_=>exact (op _).app ((lx_w 112 _ (by simp) (noWord.cons rfl)).app ((at_ _).app ((lx_w 98 _ (by simp) (noWord.cons rfl)).app cl)))
theorem Sen.lex:∀ (s:Sen),s.ok→∀ r,noWord r→LexTo s.text r s.toks
 | .con b,_,r,hr=>lx_con b hr
 | .atm i,h,r,_=>lx_atm h r
 | .una k s,h,r,hr=>(lx_una h.1 (s.head h.2.2)).app (s.lex h.2.2 r hr)
 | .bra s,h,r,hr=>(lx_one (c:=40) _ (by simp)).app ((s.lex h _ (noWord.cons rfl)).app (lx_one (c:=41) r (by simp)))
 | .bin k a b,h,r,hr=>by
   obtain ⟨hk,_,_,_,ha,hb⟩:=h
   refine (a.lex ha _ ?_).app ((lx_bin hk _).app (b.lex hb r hr))
   rw [List.append_assoc]
   exact noWord.bin hk _
theorem Sen.lexS (s:Sen) (h:s.ok) (hl:s.text.length≤60000):∃ (tks:List Tok) (x:Int),lexS s.text=(0,0,tks++[(5,[],0,x)])∧tks.map strip=s.toks:=by
 obtain ⟨f',tks,h1,h2,h3⟩:=s.lex h [] noWord.nil (s.text.length+1) 0 [] (by simp)
 rw [List.append_nil] at h3
 obtain ⟨g,rfl⟩:∃ g,f'=g+1:=⟨f'-1,by simp at h2;omega⟩
 refine ⟨tks,((0+s.text.length:Nat):Int),?_,h1⟩
 unfold Av.lexS
 rw [if_neg (by omega),h3]
 rfl
inductive Et where
 | nul (t:Trm)
 | un (k:Int) (x:Et)
 | bi (k:Int) (x y:Et)
def lvO (k:Int):Nat:=if k=6 then 5 else if k=7∨k=8 then 4 else if k=15 then 2 else if k=16 then 1 else 3
theorem lvO_le (k:Int):1≤lvO k∧lvO k≤5:=by unfold lvO;(repeat' split)<;>omega
def Et.flat:Et→List Trm
 | .nul t=>[t]
 | .un k x=>x.flat++[(k,0,[],[])]
 | .bi k x y=>x.flat++y.flat++[(k,0,[],[])]
def nulT (t:Trm):Prop:=mayT t=true∧(t.1=1∨t.1=2∨t.1=3)
def Et.wf:Et→Prop
 | .nul t=>nulT t
 | .un k x=>(k=4∨k=5)∧x.wf
 | .bi k x y=>(6≤k∧k≤16)∧x.wf∧y.wf
def Et.lv:Et→Nat
 | .nul _=>7
 | .un _ _=>6
 | .bi k _ _=>lvO k
theorem nulT.op {t:Trm} (h:nulT t):opE t.1=0:=by
 obtain ⟨_,h | h | h⟩:=h<;>rw [h]<;>rfl
theorem opE_un {k:Int} (h:k=4∨k=5):opE k=1:=by rcases h with rfl | rfl<;>rfl
theorem opE_bi {k:Int} (h:6≤k∧k≤16):opE k=2:=by unfold opE;(repeat' split)<;>omega
theorem Et.good:∀ (t:Et),t.wf→goodE t.flat
 | .nul t,h=>goodE.nul h.1 h.op
 | .un k x,h=>(x.good h.2).un (may_op (by have:=h.1;omega) (by have:=h.1;omega)) (opE_un h.1)
 | .bi k x y,h=>(x.good h.2.1).bi (y.good h.2.2) (may_op (by have:=h.1.1;omega) h.1.2) (opE_bi h.1)
theorem qbv {α:Type} {l l':List α} {x x':α} (h:l++[x]=l'++[x']):l=l'∧x=x':=by
 have:=List.append_inj' h rfl
 exact ⟨this.1,by simpa using this.2⟩
theorem Et.inj:∀ (t t':Et) (l l':List Trm),t.wf→t'.wf→l++t.flat=l'++t'.flat→l=l'∧t=t':=by
 have kind:∀ {t:Trm} {k:Int},nulT t→t=(k,0,[],[])→4≤k→False:=fun {t k} h e hk=>by
  have h1:t.1=k:=congrArg (·.1) e
  have h2:=h.2
  omega
 intro t
 induction t with
 | nul t=>
   intro t' l l' h h' e
   cases t' with
   | nul t'=>
     obtain ⟨e1,e2⟩:=qbv e
     exact ⟨e1,by rw [e2]⟩
   | un k x=>
     simp only [Et.flat,←List.append_assoc] at e
     exact (kind h (qbv e).2 (by rcases h'.1 with rfl | rfl<;>decide)).elim
   | bi k x y=>
     simp only [Et.flat,←List.append_assoc] at e
     exact (kind h (qbv e).2 (by have:=h'.1.1;omega)).elim
 | un k x ih=>
   intro t' l l' h h' e
   cases t' with
   | nul t'=>
     simp only [Et.flat,←List.append_assoc] at e
     exact (kind h' (qbv e).2.symm (by rcases h.1 with rfl | rfl<;>decide)).elim
   | un k' x'=>
     simp only [Et.flat,←List.append_assoc] at e
     obtain ⟨e1,e2⟩:=qbv e
     have hk:k=k':=congrArg (·.1) e2
     obtain ⟨e3,e4⟩:=ih x' l l' h.2 h'.2 e1
     exact ⟨e3,by rw [hk,e4]⟩
   | bi k' x' y'=>
     simp only [Et.flat,←List.append_assoc] at e
     obtain ⟨e1,e2⟩:=qbv e
     have hk:k=k':=congrArg (·.1) e2
     have h1:=h.1
     have h2:=h'.1
     omega
 | bi k x y ihx ihy=>
   intro t' l l' h h' e
   cases t' with
   | nul t'=>
     simp only [Et.flat,←List.append_assoc] at e
     exact (kind h' (qbv e).2.symm (by have:=h.1.1;omega)).elim
   | un k' x'=>
     simp only [Et.flat,←List.append_assoc] at e
     obtain ⟨e1,e2⟩:=qbv e
     have hk:k=k':=congrArg (·.1) e2
     have h1:=h.1
     have h2:=h'.1
     omega
   | bi k' x' y'=>
     simp only [Et.flat,←List.append_assoc] at e
     obtain ⟨e1,e2⟩:=qbv e
     have hk:k=k':=congrArg (·.1) e2
     obtain ⟨e3,e4⟩:=ihy y' _ _ h.2.2 h'.2.2 e1
     obtain ⟨e5,e6⟩:=ihx x' l l' h.2.1 h'.2.1 e3
     exact ⟨e5,by rw [hk,e4,e6]⟩
def eflats:List Et→List Trm
 | []=>[]
 | t::ts=>eflats ts++t.flat
def ewfs:List Et→Prop
 | []=>True
 | t::ts=>t.wf∧ewfs ts
theorem qcs:∀ (e:List Trm) (ts:List Et) (n:Int),ewfs ts→eGo e (ts.length:Nat)=some n→∃ us:List Et,ewfs us∧(us.length:Int)=n∧eflats us=eflats ts++e
 | [],ts,n,h,hg=>⟨ts,h,Option.some.inj hg,by simp⟩
 | p::r,ts,n,h,hg=>by
   simp only [eGo] at hg
   split at hg
   ·cases hg
   ·rename_i hc
    simp only [Bool.or_eq_true,Bool.not_eq_true',decide_eq_true_eq,not_or,Bool.not_eq_false] at hc
    obtain ⟨hm,hd⟩:=hc
    have hop:=mayT_op hm
    have hle:=opE_le p.1
    have hk:opE p.1=0∨opE p.1=1∨opE p.1=2:=by omega
    have hz:opE p.1≠0→p=(p.1,0,[],[]):=fun h0=>by
     have hn:¬ p.1=1∧¬ p.1=2∧¬ p.1=3:=⟨fun h=>h0 (by rw [h];rfl),fun h=>h0 (by rw [h];rfl),fun h=>h0 (by rw [h];rfl)⟩
     unfold mayT at hm
     rw [if_neg hn.1,if_neg hn.2.1,if_neg hn.2.2] at hm
     simp only [Bool.and_eq_true,decide_eq_true_eq,beq_iff_eq] at hm
     obtain ⟨a,b,c,d⟩:=p
     have h1:b=0:=hm.1.1.2
     have h2:c=[]:=hm.1.2
     have h3:d=[]:=hm.2
     rw [h1,h2,h3]
    rcases hk with h0 | h1 | h2
    ·have ht:nulT p:=⟨hm,by unfold opE at h0;(repeat' split at h0)<;>omega⟩
     rw [h0] at hg
     obtain ⟨us,u1,u2,u3⟩:=qcs r (.nul p::ts) n ⟨ht,h⟩ (by rw [←hg];congr 1<;>simp)
     exact ⟨us,u1,u2,by rw [u3];simp [eflats,Et.flat]⟩
    ·cases ts with
     | nil=>simp at hd;omega
     | cons x ts=>
       rw [h1] at hg
       have hw:(Et.un p.1 x).wf:=⟨by unfold opE at h1;(repeat' split at h1)<;>omega,h.1⟩
       obtain ⟨us,u1,u2,u3⟩:=qcs r (.un p.1 x::ts) n ⟨hw,h.2⟩ (by rw [←hg];congr 1<;>simp)
       refine ⟨us,u1,u2,?_⟩
       rw [u3]
       have:=hz (by omega)
       simp only [eflats,Et.flat]
       rw [←this]
       simp
    ·cases ts with
     | nil=>simp at hd;omega
     | cons y ts=>
       cases ts with
       | nil=>simp at hd;omega
       | cons x ts=>
         rw [h2] at hg
         have hw:(Et.bi p.1 x y).wf:=⟨by unfold opE at h2;(repeat' split at h2)<;>omega,h.2.1,h.1⟩
         obtain ⟨us,u1,u2,u3⟩:=qcs r (.bi p.1 x y::ts) n ⟨hw,h.2.2⟩ (by rw [←hg];congr 1;simp;omega)
         refine ⟨us,u1,u2,?_⟩
         rw [u3]
         have:=hz (by omega)
         simp only [eflats,Et.flat]
         rw [←this]
         simp
theorem qeh {e:List Trm} (h:rightE e=true):∃ t:Et,t.wf∧e=t.flat∧e.length≤30:=by
 unfold rightE fin30 at h
 cases hg:eGo e 0 with
 | none=>rw [hg] at h;cases h
 | some d=>
   rw [hg] at h
   simp only [Bool.and_eq_true,decide_eq_true_eq] at h
   obtain ⟨us,u1,u2,u3⟩:=qcs e [] d trivial hg
   rw [h.1] at u2
   match us,u1,u2,u3 with
   | [t],u1,_,u3=>exact ⟨t,u1.1,by simpa [eflats] using u3.symm,h.2⟩
theorem qbw {t:Et} (h:t.wf) (hl:t.flat.length≤30):rightE t.flat=true:=(t.good h).right hl
def opW (k:Int):List UInt8:=if k=6 then [42] else if k=7 then [43] else if k=8 then [45] else if k=9 then [60] else if k=10 then [60,61] else if k=11 then [62] else if k=12 then [62,61] else if k=13 then [61,61] else if k=14 then [33,61] else if k=15 then [38,38] else [124,124]
def unW (k:Int):List UInt8:=if k=4 then [33] else [45]
theorem qdu {k:Int} (h:6≤k∧k≤16):k=6∨k=7∨k=8∨k=9∨k=10∨k=11∨k=12∨k=13∨k=14∨k=15∨k=16:=by omega
def lfO (n:Nat):Nat:=if n=3 then 4 else n
inductive De where
 | nul (t:Trm) (w:List UInt8)
 | un (k:Int) (d:De)
 | bi (k:Int) (a b:De)
 | bra (d:De)
def De.lv:De→Nat
 | .nul _ _=>7
 | .un _ _=>6
 | .bi k _ _=>lvO k
 | .bra _=>7
def De.ok:De→Prop
 | .nul t _=>nulT t
 | .un k d=>(k=4∨k=5)∧6≤d.lv∧d.ok
 | .bi k a b=>(6≤k∧k≤16)∧lfO (lvO k)≤a.lv∧lvO k+1≤b.lv∧a.ok∧b.ok
 | .bra d=>d.ok
def nulK (t:Trm) (w:List UInt8):List TokS:=if t.1=1 then [(1,w,t.2.1)] else if t.1=2 then [(2,t.2.2.1,0)] else [(2,t.2.2.1,0),(4,[64],0),(2,t.2.2.2,0)]
def De.toks:De→List TokS
 | .nul t w=>nulK t w
 | .un k d=>(4,unW k,0)::d.toks
 | .bi k a b=>a.toks++((4,opW k,0)::b.toks)
 | .bra d=>(4,[40],0)::(d.toks++[(4,[41],0)])
def PreT:List TokS→List Tok→Nat→Prop
 | [],_,_=>True
 | t::ts,l,a=>(a<l.length∧strip (tkD l a)=t)∧PreT ts l (a+1)
theorem PreT.app:∀ (s t:List TokS) (l:List Tok) (a:Nat),PreT (s++t) l a→PreT s l a∧PreT t l (a+s.length)
 | [],t,l,a,h=>⟨trivial,h⟩
 | x::s,t,l,a,h=>by
   obtain ⟨h1,h2⟩:=PreT.app s t l (a+1) h.2
   refine ⟨⟨h.1,h1⟩,?_⟩
   rw [List.length_cons,show a+(s.length+1)=a+1+s.length by omega]
   exact h2
section
variable {l:List Tok}
end
section
variable {vs:List Vrb} {ps:List Pcs} (ts:List Trn)
end
end Go.Proofs.YtkmpkebaloejhaaDoor.Av
