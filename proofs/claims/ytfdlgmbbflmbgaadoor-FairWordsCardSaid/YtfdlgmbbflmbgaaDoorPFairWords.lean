/- The plain law of FairWords: what its twin computes answers true. Conditions: none. -/
import Derived.Test.YtfdlgmbbflmbgaaDoorPFairWordsa
set_option maxRecDepth 100000
namespace Go.Proofs.YtfdlgmbbflmbgaaDoor.Av
open Go
def shortE (f:List Trm):Prop:=f.length≤30∧∀ t∈f,t.2.2.1.length≤8∧t.2.2.2.length≤8
theorem qb5:shortE []:=⟨by simp,fun t h=>by cases h⟩
theorem shortE.of {f:List Trm} (h:rightE f=true):shortE f:=qbz h
theorem shortE.small {f:List Trm} (h:shortE f):smallE f:=⟨by have:=h.1;omega,fun t ht=>by have:=h.2 t ht;omega⟩
theorem shortE.right {f:List Trm} (h:shortE f):M80 f=some (rightE f):=qfr f h.small (by have:=h.1;omega)
theorem parse7_ok (s:List UInt8):∃ e x f,M91 s=some (e,x,f)∧shortE f∧(e=0→rightE f=true):=by
 show ∃ e x f,T91 Ops.std M9 M101 s some=some (e,x,f)∧_
 unfold T91
 rw [lex_ref,ob_s]
 rcases hl:lexS s with ⟨e,x,l⟩
 simp only [qan,qak,qa4,qaa,mt]
 by_cases he:e=0
 ·subst he
  obtain ⟨h1,h2,h3⟩:=lexS_ok hl
  rw [if_neg (by simp)]
  have hln:=toks_len h1
  obtain ⟨k,e2,y,t1,t2,t3⟩:=take_ok h1 (by omega) 0 hln
  have t1':M101 l 0=some ((k:Int),e2,y):=t1
  rw [t1',ob_s]
  dsimp only
  rcases t3 with ⟨rfl,_,hr,_⟩ | ⟨rfl,rfl⟩ | ⟨rfl,rfl,_⟩
  ·rw [if_neg (by simp),if_pos (by omega)]
   split
   ·rw [if_pos (by omega)]
    exact ⟨_,_,_,rfl,qb5,fun h=>by cases h⟩
   ·exact ⟨_,_,_,rfl,shortE.of hr,fun _=>hr⟩
  ·rw [if_pos (by decide),if_pos (by omega)]
   exact ⟨_,_,_,rfl,qb5,fun h=>by cases h⟩
  ·rw [if_pos (by decide),if_pos (by omega)]
   exact ⟨_,_,_,rfl,qb5,fun h=>by cases h⟩
 ·rw [if_pos he]
  exact ⟨_,_,_,rfl,qb5,fun h=>absurd h he⟩
abbrev Eff:=List UInt8×List Trm
def okEf (x:Eff):Prop:=x.1.length≤8∧rightE x.2=true
theorem qee (p:List (List UInt8)) (hp:p.length≤100000):∀ (t i n:Nat) (out:List Eff),i+t=p.length→t<n→out.length≤i→(∀ x∈out,okEf x)→
  ∃ b o,R92 M9 M101 p n (.l0 i out)=some (b,o)∧o.length≤p.length∧∀ x∈o,okEf x
 | t,i,0,out,hi,hn,ho,hk=>by omega
 | 0,i,n+1,out,hi,hn,ho,hk=>by
   show ∃ b o,T92 Ops.std _ _ p _ some _=some (b,o)∧_
   unfold T92
   simp only [qah,qaa]
   rw [if_neg (by omega)]
   exact ⟨_,_,rfl,by omega,hk⟩
 | t+1,i,n+1,out,hi,hn,ho,hk=>by
   have ih:=qee p hp t (i+1) n
   have bad:∃ b o,(some ((false,([]:List Eff))):Option (Bool×List Eff))=some (b,o)∧o.length≤p.length∧∀ x∈o,okEf x:=⟨_,_,rfl,by simp,fun x h=>by cases h⟩
   show ∃ b o,T92 Ops.std _ _ p _ some _=some (b,o)∧_
   unfold T92
   have hw:IntKind.wrap IntKind.i64 ((i:Int)+1)=((i+1:Nat):Int):=qag (by omega)
   simp only [qah,qak,qas,qan,qa4,qaa,qac,mt,List.length_cons,List.length_nil,hw]
   rw [if_pos (by omega),if_pos (by omega),lex_ref,ob_s]
   rcases hl:lexS (p.getD i (Ty.dflt ty9)) with ⟨e,x,l⟩
   dsimp only
   by_cases he:e=0
   ·subst he
    obtain ⟨h1,h2,h3⟩:=lexS_ok hl
    rw [if_neg (by simp)]
    by_cases h3l:(l.length:Int)<3
    ·rw [if_pos h3l];exact bad
    ·rw [if_neg h3l,if_pos (by omega)]
     by_cases hk0:(l.getD (Int.toNat 0) (Ty.dflt ty30)).1=2
     ·rw [if_neg (fun h=>h hk0),if_pos (by omega)]
      by_cases hk1:(l.getD (Int.toNat 1) (Ty.dflt ty30)).1=4
      ·rw [if_neg (fun h=>h hk1),if_pos (by omega)]
       cases !(l.getD (Int.toNat 1) (Ty.dflt ty30)).2.1 == ([61]:List UInt8) with
       | true=>simp only [cond_true];exact bad
       | false=>
         simp only [cond_false]
         obtain ⟨k,e2,y,t1,t2,t3⟩:=take_ok h1 (by omega) 2 (by omega)
         have t1':M101 l 2=some ((k:Int),e2,y):=t1
         rw [t1',ob_s]
         dsimp only
         rcases t3 with ⟨rfl,_,hr,_⟩ | ⟨rfl,rfl⟩ | ⟨rfl,rfl,_⟩
         ·rw [if_neg (by simp),if_pos (by omega)]
          split
          ·exact bad
          ·rw [if_pos (by omega),if_pos (by omega)]
           refine ih _ (by omega) (by omega) (by simp;omega) fun z hz=>?_
           rcases List.mem_append.1 hz with hz | hz
           ·exact hk z hz
           ·simp only [List.mem_singleton] at hz
            rw [hz]
            refine ⟨?_,hr⟩
            have:=(toks_at h1 (i:=0) (by omega) (Ty.dflt ty30)).2.1.2 hk0
            exact qen this
         ·rw [if_pos (by decide)];exact bad
         ·rw [if_pos (by decide)];exact bad
      ·rw [if_pos hk1];exact bad
     ·rw [if_pos hk0];exact bad
   ·rw [if_pos he];exact bad
theorem effects_ok (p:List (List UInt8)) (hp:p.length≤100000):∃ b o,M92 p=some (b,o)∧o.length≤p.length∧∀ x∈o,okEf x:=by
 show ∃ b o,T92 Ops.std M9 M101 p (R92 M9 M101 p 1000000) some none=some (b,o)∧_
 unfold T92
 exact qee p hp p.length 0 1000000 [] (by omega) (by omega) (by simp) (fun x h=>by cases h)
def pB:Nat→Nat
 | 0=>20
 | i+1=>2*pB i+20
theorem pB_le:∀ i,i≤30→pB i≤43000000000:=by decide
theorem pB_ge:∀ i,20≤pB i
 | 0=>by simp [pB]
 | i+1=>by have:=pB_ge i;simp only [pB];omega
theorem qcr (s:List UInt8) (a b:Int) (hs:s.length≤100000000000):∃ r,M112 s a b=some r∧r.length≤s.length+2:=by
 show ∃ r,T112 Ops.std s a b some=some r∧_
 unfold T112
 simp only [qah,qas,qaa,List.length_append,List.length_cons,List.length_nil]
 by_cases h:a<b
 ·rw [if_pos h,if_pos (by omega),if_pos (by omega)];exact ⟨_,rfl,by simp⟩
 ·rw [if_neg h];exact ⟨s,rfl,by omega⟩
theorem may_num {t:Trm} (h:mayT t=true) (h1:t.1=1):0≤t.2.1∧t.2.1≤999:=by
 unfold mayT at h
 simp [h1] at h
 omega
theorem rightE_may {e:List Trm} (h:rightE e=true):∀ t∈e,mayT t=true:=by
 unfold rightE fin30 at h
 cases hg:eGo e 0 with
 | none=>rw [hg] at h;cases h
 | some d=>exact eGo_may e 0 d hg
abbrev Sd:=List UInt8×Int
noncomputable abbrev prR (e:List Trm):=R103 M80 M111 M98 M94 M112 e
def okS (L:Nat) (st:List Sd):Prop:=∀ x∈st,x.1.length≤L
theorem okS.mono {L L':Nat} {st:List Sd} (h:okS L st) (hl:L≤L'):okS L' st:=fun x hx=>Nat.le_trans (h x hx) hl
theorem okS.app {L:Nat} {st:List Sd} {x:Sd} (h:okS L st) (hx:x.1.length≤L):okS L (st++[x]):=fun y hy=>by
 rcases List.mem_append.1 hy with hy | hy
 ·exact h y hy
 ·simp only [List.mem_singleton] at hy;rw [hy];exact hx
theorem okS.take {L:Nat} {st:List Sd} (h:okS L st) (k:Nat):okS L (st.take k):=fun y hy=>h y (List.mem_of_mem_take hy)
theorem okS.get {L:Nat} {st:List Sd} (h:okS L st) (k:Nat) (hk:k<st.length) (d:Sd):(st.getD k d).1.length≤L:=by
 rw [List.getD_eq_getElem?_getD,List.getElem?_eq_getElem hk];exact h _ (List.getElem_mem hk)
def sgnL:List (List UInt8):=[[],[],[],[],[33],[45],[42],[43],[45],[60],[60,61],[62],[62,61],[61,61],[33,61],[38,38],[124,124]]
theorem sgnL_len (k:Nat):(sgnL.getD k []).length≤2:=qa1 (n:=2) rfl k
theorem qfy (e:List Trm) (he:rightE e=true):∀ (t i n:Nat) (st:List Sd),i+t=e.length→t<n→st.length≤i→okS (pB i) st→∃ s,prR e n (.l0 i st)=some s∧s.length≤43000000000
 | t,i,0,st,hi,hn,ho,hk=>by omega
 | 0,i,n+1,st,hi,hn,ho,hk=>by
   have hsh:=shortE.of he
   have hB:=pB_le i (by have:=hsh.1;omega)
   show ∃ s,T103 Ops.std _ _ _ _ _ e _ some _=some s∧_
   unfold T103
   simp only [qah,qak,qan,qaa]
   rw [if_neg (by omega)]
   by_cases h0:((st.length:Nat):Int)=0
   ·rw [if_pos h0];exact ⟨_,rfl,by simp⟩
   ·rw [if_neg h0,if_pos (by omega)]
    exact ⟨_,rfl,by have:=hk.get 0 (by omega) (Ty.dflt ty167);exact Nat.le_trans this hB⟩
 | t+1,i,n+1,st,hi,hn,ho,hk=>by
   have ih:=qfy e he t (i+1) n
   have hsh:=shortE.of he
   have h30:=hsh.1
   have hB:=pB_le i (by omega)
   have hG:=pB_ge i
   have hB1:pB (i+1)=2*pB i+20:=rfl
   obtain ⟨x,hx⟩:∃ x,e.getD i (Ty.dflt ty140)=x:=⟨_,rfl⟩
   have hm:x∈e:=by
    rw [←hx,List.getD_eq_getElem?_getD,List.getElem?_eq_getElem (by omega)];exact List.getElem_mem _
   have hmay:=rightE_may he _ hm
   have hnm:=hsh.2 _ hm
   have hop:=mayT_op hmay
   show ∃ s,T103 Ops.std _ _ _ _ _ e _ some _=some s∧_
   unfold T103
   have hw:IntKind.wrap IntKind.i64 ((i:Int)+1)=((i+1:Nat):Int):=qag (by omega)
   obtain ⟨v,hv⟩:=qdg x.1
   simp only [qah,qak,qas,qan,qaa,qac,hx,hw,hv,opE_ref,ob_s,mt,List.length_cons,List.length_nil]
   rw [if_pos (by omega),if_pos (by omega)]
   by_cases o0:opE x.1=0
   ·rw [if_pos o0]
    by_cases h1:x.1=1
    ·obtain ⟨q1,q2⟩:=may_num hmay h1
     obtain ⟨s,d1,d2⟩:=qd0 x.2.1.toNat (by omega)
     rw [Int.toNat_of_nonneg q1] at d1
     rw [if_pos h1,d1,ob_s,if_pos (by omega)]
     exact ih _ (by omega) (by omega) (by simp;omega) ((hk.mono (by omega)).app (by show s.length≤_;omega))
    ·rw [if_neg h1]
     by_cases h2:x.1=2
     ·rw [if_pos h2,if_pos (by omega)]
      exact ih _ (by omega) (by omega) (by simp;omega) ((hk.mono (by omega)).app (by show x.2.2.1.length≤_;omega))
     ·rw [if_neg h2]
      simp only [List.length_append,List.length_cons,List.length_nil]
      rw [if_pos (by omega),if_pos (by omega),if_pos (by omega)]
      exact ih _ (by omega) (by omega) (by simp;omega) ((hk.mono (by omega)).app (by show (x.2.2.1++([64]:List UInt8)++x.2.2.2).length≤_;simp;omega))
   ·rw [if_neg o0]
    have hop17:0≤x.1∧x.1<17:=by unfold opE at hop;split at hop<;>omega
    have hsl:(([[],[],[],[],[33],[45],[42],[43],[45],[60],[60,61],[62],[62,61],[61,61],[33,61],[38,38],[124,124]]:List (List UInt8)).getD (Int.toNat x.1) []).length≤2:=sgnL_len (Int.toNat x.1)
    by_cases o1:opE x.1=1
    ·rw [if_pos o1]
     by_cases hl:((st.length:Nat):Int)<1
     ·rw [if_pos hl];exact ⟨_,rfl,by simp⟩
     ·have hw1:IntKind.wrap IntKind.i64 ((st.length:Int)-1)=((st.length-1:Nat):Int):=by rw [wrap64 (by omega) (by omega)];omega
      rw [if_neg hl]
      simp only [hw1,qac]
      have hg:=hk.get (st.length-1) (by omega) (Ty.dflt ty167)
      obtain ⟨r,r1,r2⟩:=qcr (st.getD (st.length-1) (Ty.dflt ty167)).1 (st.getD (st.length-1) (Ty.dflt ty167)).2 v (by omega)
      rw [if_pos (by omega),if_pos (by omega),r1,ob_s]
      generalize ([[],[],[],[],[33],[45],[42],[43],[45],[60],[60,61],[62],[62,61],[61,61],[33,61],[38,38],[124,124]]:List (List UInt8)).getD (Int.toNat x.1) []=sg at hsl ⊢
      rw [if_pos (by omega),if_pos (by omega),if_pos (by simp;omega)]
      exact ih _ (by omega) (by omega) (by simp;omega) (((hk.mono (by omega)).take _).app (by show (sg++r).length≤_;simp;omega))
    ·rw [if_neg o1]
     by_cases hl:((st.length:Nat):Int)<2
     ·rw [if_pos hl];exact ⟨_,rfl,by simp⟩
     ·have hw1:IntKind.wrap IntKind.i64 ((st.length:Int)-1)=((st.length-1:Nat):Int):=by rw [wrap64 (by omega) (by omega)];omega
      have hw2:IntKind.wrap IntKind.i64 ((st.length:Int)-2)=((st.length-2:Nat):Int):=by rw [wrap64 (by omega) (by omega)];omega
      rw [if_neg hl]
      simp only [hw1,hw2,qac]
      have hg1:=hk.get (st.length-1) (by omega) (Ty.dflt ty167)
      have hg2:=hk.get (st.length-2) (by omega) (Ty.dflt ty167)
      generalize ([[],[],[],[],[33],[45],[42],[43],[45],[60],[60,61],[62],[62,61],[61,61],[33,61],[38,38],[124,124]]:List (List UInt8)).getD (Int.toNat x.1) []=sg at hsl ⊢
      by_cases h3:v=3
      ·rw [if_pos h3]
       obtain ⟨a,a1,a2⟩:=qcr (st.getD (st.length-2) (Ty.dflt ty167)).1 (st.getD (st.length-2) (Ty.dflt ty167)).2 4 (by omega)
       obtain ⟨c,c1,c2⟩:=qcr (st.getD (st.length-1) (Ty.dflt ty167)).1 (st.getD (st.length-1) (Ty.dflt ty167)).2 (IntKind.wrap IntKind.i64 (v+1)) (by omega)
       simp only [a1,c1,ob_s,List.length_append]
       rw [if_pos (by omega),if_pos (by omega),if_pos (by omega),if_pos (by omega),if_pos (by omega),if_pos (by omega),if_pos (by simp;omega)]
       exact ih _ (by omega) (by omega) (by simp;omega) (((hk.mono (by omega)).take _).app (by show (a++sg++c).length≤_;simp;omega))
      ·rw [if_neg h3]
       obtain ⟨a,a1,a2⟩:=qcr (st.getD (st.length-2) (Ty.dflt ty167)).1 (st.getD (st.length-2) (Ty.dflt ty167)).2 v (by omega)
       obtain ⟨c,c1,c2⟩:=qcr (st.getD (st.length-1) (Ty.dflt ty167)).1 (st.getD (st.length-1) (Ty.dflt ty167)).2 (IntKind.wrap IntKind.i64 (v+1)) (by omega)
       simp only [a1,c1,ob_s,List.length_append]
       rw [if_pos (by omega),if_pos (by omega),if_pos (by omega),if_pos (by omega),if_pos (by omega),if_pos (by omega),if_pos (by simp;omega)]
       exact ih _ (by omega) (by omega) (by simp;omega) (((hk.mono (by omega)).take _).app (by show (a++sg++c).length≤_;simp;omega))
theorem print_ok (e:List Trm) (h:shortE e) (hr:rightE e=true):∃ s,M103 e=some s∧s.length≤43000000000:=by
 show ∃ s,T103 Ops.std M80 M111 M98 M94 M112 e (prR e 1000000) some none=some s∧_
 unfold T103
 rw [h.right,ob_s,hr]
 simp only [Bool.not_true,cond_false]
 exact qfy e hr e.length 0 1000000 [] (by omega) (by have:=h.1;omega) (by simp) (fun x h=>by cases h)
theorem okEf.short {x:Eff} (h:okEf x):shortE x.2:=shortE.of h.2
theorem reff_loop (l:List Eff) (hl:l.length≤100000) (hk:∀ x∈l,okEf x):∀ (t i n:Nat),i+t=l.length→t<n→∃ b,R102 M11 M80 l n (.l0 i)=some b∧(b=true→l.length≤3)
 | t,i,0,hi,hn=>by omega
 | 0,i,n+1,hi,hn=>by
   show ∃ b,T102 Ops.std _ _ l _ some _=some b∧_
   unfold T102
   simp only [qah,qay,qaa]
   rw [if_neg (by omega)]
   exact ⟨_,rfl,fun h=>by simp at h;omega⟩
 | t+1,i,n+1,hi,hn=>by
   have ih:=reff_loop l hl hk t (i+1) n
   show ∃ b,T102 Ops.std _ _ l _ some _=some b∧_
   unfold T102
   have hw:IntKind.wrap IntKind.i64 ((i:Int)+1)=((i+1:Nat):Int):=qag (by omega)
   have hm:l.getD i (Ty.dflt ty138)∈l:=by
    rw [List.getD_eq_getElem?_getD,List.getElem?_eq_getElem (by omega)];exact List.getElem_mem _
   have hx:=hk _ hm
   simp only [qah,qak,qaa,qac,hw]
   rw [if_pos (by omega),if_pos (by omega),qbe _ (by have:=hx.1;omega),ob_s]
   cases isWordP (l.getD i (Ty.dflt ty138)).1 with
   | false=>exact ⟨false,rfl,fun h=>by cases h⟩
   | true=>
     simp only [Bool.not_true,cond_false]
     rw [if_pos (by omega),hx.short.right,ob_s,hx.2]
     simp only [Bool.not_true,cond_false]
     exact ih (by omega) (by omega)
theorem reff_ok (l:List Eff) (hl:l.length≤100000) (hk:∀ x∈l,okEf x):∃ b,M102 l=some b∧(b=true→l.length≤3):=by
 show ∃ b,T102 Ops.std M11 M80 l (R102 M11 M80 l 1000000) some none=some b∧_
 unfold T102
 exact reff_loop l hl hk l.length 0 1000000 (by omega) (by omega)
theorem peff_loop (l:List Eff) (h3:l.length≤3) (hk:∀ x∈l,okEf x):∀ (t i n:Nat) (s:List UInt8),i+t=l.length→t<n→s.length≤i*43000000100→∃ r,R104 M103 l n (.l0 s i)=some r∧r.length≤130000000000
 | t,i,0,s,hi,hn,hs=>by omega
 | 0,i,n+1,s,hi,hn,hs=>by
   show ∃ r,T104 Ops.std _ l _ some _=some r∧_
   unfold T104
   simp only [qah,qaa]
   rw [if_neg (by omega)]
   exact ⟨_,rfl,by omega⟩
 | t+1,i,n+1,s,hi,hn,hs=>by
   have ih:=peff_loop l h3 hk t (i+1) n
   show ∃ r,T104 Ops.std _ l _ some _=some r∧_
   unfold T104
   have hw:IntKind.wrap IntKind.i64 ((i:Int)+1)=((i+1:Nat):Int):=qag (by omega)
   have hm:l.getD i (Ty.dflt ty138)∈l:=by
    rw [List.getD_eq_getElem?_getD,List.getElem?_eq_getElem (by omega)];exact List.getElem_mem _
   have hx:=hk _ hm
   have hx1:=hx.1
   obtain ⟨w,w1,w2⟩:=print_ok _ hx.short hx.2
   simp only [qah,qak,qas,qaa,qac,hw,w1,ob_s,List.length_append,List.length_cons,List.length_nil]
   rw [if_pos (by omega),if_pos (by omega),if_pos (by omega),if_pos (by omega),if_pos (by omega),if_pos (by omega),if_pos (by omega)]
   exact ih _ (by omega) (by omega) (by simp only [List.length_append,List.length_cons,List.length_nil];omega)
theorem peff_ok (l:List Eff) (h3:l.length≤3) (hk:∀ x∈l,okEf x):∃ r,M104 l=some r∧r.length≤130000000000:=by
 show ∃ r,T104 Ops.std M103 l (R104 M103 l 1000000) some none=some r∧_
 unfold T104
 exact peff_loop l h3 hk l.length 0 1000000 [] (by omega) (by omega) (by simp)
theorem printTrans_ok (id:Int) (a b c d:List UInt8) (g:List Trm) (ef:List Eff) (ha:a.length≤60000) (hb:b.length≤60000) (hc:c.length≤60000) (hd:d.length≤60000) (hg:shortE g) (hl:ef.length≤100000) (hk:∀ x∈ef,okEf x) :
  ∃ s,M93 id a b c d g ef=some s:=by
 show ∃ s,T93 Ops.std M76 M77 M11 M80 M102 M94 M103 M104 id a b c d g ef some=some s
 unfold T93
 obtain ⟨ch,ok,h1⟩:=qd1 d (by omega)
 rw [h1,ob_s,id_ok,ob_s,qbe a (by omega),qbe b (by omega),qbe c (by omega),hg.right]
 simp only [ob_s]
 by_cases hid:1≤id∧id≤999
 ·rw [decide_eq_true hid]
  simp only [Bool.not_true,cond_false]
  cases ok with
  | false=>exact ⟨_,rfl⟩
  | true=>
  cases isWordP a with
  | false=>exact ⟨_,rfl⟩
  | true=>
  cases isWordP b with
  | false=>exact ⟨_,rfl⟩
  | true=>
  cases isWordP c with
  | false=>exact ⟨_,rfl⟩
  | true=>
  cases hr:rightE g with
  | false=>exact ⟨_,rfl⟩
  | true=>
  obtain ⟨bb,e1,e2⟩:=reff_ok ef hl hk
  simp only [Bool.not_true,cond_false,e1,ob_s]
  cases hbb:bb with
  | false=>exact ⟨_,rfl⟩
  | true=>
  obtain ⟨w,w1,w2⟩:=qd0 id.toNat (by omega)
  rw [Int.toNat_of_nonneg (by omega)] at w1
  obtain ⟨u,u1,u2⟩:=print_ok g hg hr
  obtain ⟨z,z1,z2⟩:=peff_ok ef (e2 hbb) hk
  simp only [Bool.not_true,cond_false,w1,u1,z1,ob_s,qas,qaa,List.length_append,List.length_cons,List.length_nil]
  cases d == mt UInt8 with
  | true=>
    simp only [cond_true]
    rw [if_pos (by omega),if_pos (by omega),if_pos (by omega),if_pos (by omega),if_pos (by omega),if_pos (by omega),if_pos (by omega),if_pos (by omega),if_pos (by omega),if_pos (by omega),if_pos (by omega)]
    exact ⟨_,rfl⟩
  | false=>
    simp only [cond_false]
    rw [if_pos (by omega),if_pos (by omega),if_pos (by omega),if_pos (by omega),if_pos (by omega),if_pos (by omega),if_pos (by omega),if_pos (by omega),if_pos (by omega),if_pos (by omega),if_pos (by omega)]
    exact ⟨_,rfl⟩
 ·rw [decide_eq_false hid]
  exact ⟨_,rfl⟩
abbrev Trn:=Int×List UInt8×List UInt8×List UInt8×List UInt8×List Trm×List Eff
def okTr (t:Trn):Prop:=t.2.1.length≤60000∧t.2.2.1.length≤60000∧t.2.2.2.1.length≤60000∧t.2.2.2.2.1.length≤60000∧shortE t.2.2.2.2.2.1∧t.2.2.2.2.2.2.length≤100000∧∀ x∈t.2.2.2.2.2.2,okEf x
theorem parseTrans_ok (s:List UInt8) (hs:s.length≤60000):∃ id a b c d g ef ok,M69 s=some (id,a,b,c,d,g,ef,ok)∧okTr (id,a,b,c,d,g,ef):=by
 show ∃ id a b c d g ef ok,T69 Ops.std M67 M90 M76 M70 M66 M91 M92 M93 s some=some (id,a,b,c,d,g,ef,ok)∧_
 unfold T69
 have bad:∃ id a b c d g ef ok,(some ((0:Int),([]:List UInt8),([]:List UInt8),([]:List UInt8),([]:List UInt8),([]:List Trm),([]:List Eff),false))=some (id,a,b,c,d,g,ef,ok)∧okTr (id,a,b,c,d,g,ef):=
  ⟨_,_,_,_,_,_,_,_,rfl,by simp,by simp,by simp,by simp,qb5,by simp,fun x h=>by cases h⟩
 obtain ⟨w,w1,w2,w3⟩:=words_ok s hs
 rw [w1,ob_s]
 simp only [qah,qak,qan,qa4,qaa,mt]
 by_cases h6:((w.length:Nat):Int)<6
 ·rw [if_pos h6];exact bad
 ·rw [if_neg h6,if_pos (by omega)]
  obtain ⟨n,ok,a1⟩:=qdl (w.getD (Int.toNat 0) (Ty.dflt ty9)) false
  rw [a1,ob_s,if_pos (by omega),if_pos (by omega),if_pos (by omega),if_pos (by omega)]
  have g1:=w3.get (Int.toNat 1)
  have g2:=w3.get (Int.toNat 2)
  have g3:=w3.get (Int.toNat 3)
  have g4:=w3.get (Int.toNat 4)
  obtain ⟨r,r1,r2⟩:=skip_ok s hs 5 (by omega)
  have r1':M70 s 5=some r:=r1
  obtain ⟨l,l1,l2,l3,l4⟩:=cut_ok r (by omega) 59
  obtain ⟨e,x,g,p1,p2,p3⟩:=parse7_ok (l.getD (Int.toNat 0) (Ty.dflt ty9))
  obtain ⟨fine,ef,f1,f2,f3⟩:=effects_ok (List.drop (Int.toNat 1) (List.take l.length l)) (by simp;omega)
  have fin:∀ d:List UInt8,d.length≤60000→∃ s',M93 n (w.getD (Int.toNat 1) (Ty.dflt ty9)) (w.getD (Int.toNat 2) (Ty.dflt ty9)) (w.getD (Int.toNat 3) (Ty.dflt ty9)) d g ef=some s':=fun d hd=>
   printTrans_ok n _ _ _ d g ef (Nat.le_trans g1 hs) (Nat.le_trans g2 hs) (Nat.le_trans g3 hs) hd p2 (by simp at f2;omega) f3
  have good:∀ d:List UInt8,d.length≤60000→okTr (n,w.getD (Int.toNat 1) (Ty.dflt ty9),w.getD (Int.toNat 2) (Ty.dflt ty9),w.getD (Int.toNat 3) (Ty.dflt ty9),d,g,ef):=fun d hd=>
   ⟨Nat.le_trans g1 hs,Nat.le_trans g2 hs,Nat.le_trans g3 hs,hd,p2,by simp at f2;show ef.length≤100000;omega,f3⟩
  cases w.getD (Int.toNat 4) (Ty.dflt ty9) == ([45]:List UInt8) with
  | true=>
    simp only [cond_true]
    rw [r1',ob_s,l1,ob_s,if_pos (by omega),p1,ob_s,if_pos (by omega),f1,ob_s]
    dsimp only
    cases ok with
    | false=>exact bad
    | true=>
      simp only [Bool.not_true,cond_false]
      by_cases he:e=0
      ·rw [if_neg (fun h=>h he)]
       cases fine with
       | false=>exact bad
       | true=>
         simp only [Bool.not_true,cond_false]
         obtain ⟨s',q1⟩:=fin [] (by simp)
         rw [q1,ob_s]
         cases s' == ([]:List UInt8) with
         | true=>exact bad
         | false=>exact ⟨_,_,_,_,_,_,_,_,rfl,good [] (by simp)⟩
      ·rw [if_pos he];exact bad
  | false=>
    simp only [cond_false]
    obtain ⟨ch,cok,c1⟩:=qd1 (w.getD (Int.toNat 4) (Ty.dflt ty9)) (by have:(w.getD (Int.toNat 4) (Ty.dflt ty9)).length≤s.length:=g4;omega)
    rw [c1,ob_s]
    dsimp only
    cases cok with
    | false=>exact bad
    | true=>
    simp only [Bool.not_true,cond_false]
    rw [r1',ob_s,l1,ob_s,if_pos (by omega),p1,ob_s,if_pos (by omega),f1,ob_s]
    dsimp only
    cases ok with
    | false=>exact bad
    | true=>
      simp only [Bool.not_true,cond_false]
      by_cases he:e=0
      ·rw [if_neg (fun h=>h he)]
       cases fine with
       | false=>exact bad
       | true=>
         simp only [Bool.not_true,cond_false]
         obtain ⟨s',q1⟩:=fin (w.getD (Int.toNat 4) (Ty.dflt ty9)) (Nat.le_trans g4 hs)
         rw [q1,ob_s]
         cases s' == ([]:List UInt8) with
         | true=>exact bad
         | false=>exact ⟨_,_,_,_,_,_,_,_,rfl,good _ (Nat.le_trans g4 hs)⟩
      ·rw [if_pos he];exact bad
abbrev Vrb:=List UInt8×Int×Int×Int
abbrev Pcs:=List UInt8×List (List UInt8)
section
variable (vs:List Vrb) (ps:List Pcs) (ts:List Trn)
theorem qef (hp:ps.length≤100000) (s:List UInt8):∀ (t i n:Nat),i+t=ps.length→t<n→∃ r,R75 vs ps ts s n (.l0 i)=some r∧(r = -1∨∃ k:Nat,k<ps.length∧r=(k:Int))
 | t,i,0,hi,hn=>by omega
 | 0,i,n+1,hi,hn=>by
   show ∃ r,T75 Ops.std vs ps ts s _ some _=some r∧_
   unfold T75
   simp only [qah,qaa]
   rw [if_neg (by omega)]
   exact ⟨_,rfl,.inl rfl⟩
 | t+1,i,n+1,hi,hn=>by
   have ih:=qef hp s t (i+1) n (by omega) (by omega)
   show ∃ r,T75 Ops.std vs ps ts s _ some _=some r∧_
   unfold T75
   simp only [qah,qak,qaa,qac,show IntKind.wrap IntKind.i64 ((i:Int)+1)=((i+1:Nat):Int) from qag (by omega)]
   rw [if_pos (by omega),if_pos (by omega)]
   cases (ps.getD i (Ty.dflt ty85)).1 == s with
   | true=>exact ⟨_,rfl,.inr ⟨i,by omega,rfl⟩⟩
   | false=>exact ih
theorem qfz (hp:ps.length≤100000) (s:List UInt8):∃ r,M75 vs ps ts s=some r∧(r = -1∨∃ k:Nat,k<ps.length∧r=(k:Int)):=by
 show ∃ r,T75 Ops.std vs ps ts s (R75 vs ps ts s 1000000) some none=some r∧_
 unfold T75
 exact qef vs ps ts hp s ps.length 0 1000000 (by omega) (by omega)
theorem qdm (hv:vs.length≤100000) (s:List UInt8):∀ (t i n:Nat),i+t=vs.length→t<n→∃ r,R79 vs ps ts s n (.l0 i)=some r∧(r = -1∨∃ k:Nat,k<vs.length∧r=(k:Int))
 | t,i,0,hi,hn=>by omega
 | 0,i,n+1,hi,hn=>by
   show ∃ r,T79 Ops.std vs ps ts s _ some _=some r∧_
   unfold T79
   simp only [qah,qaa]
   rw [if_neg (by omega)]
   exact ⟨_,rfl,.inl rfl⟩
 | t+1,i,n+1,hi,hn=>by
   have ih:=qdm hv s t (i+1) n (by omega) (by omega)
   show ∃ r,T79 Ops.std vs ps ts s _ some _=some r∧_
   unfold T79
   simp only [qah,qak,qaa,qac,show IntKind.wrap IntKind.i64 ((i:Int)+1)=((i+1:Nat):Int) from qag (by omega)]
   rw [if_pos (by omega),if_pos (by omega)]
   cases (vs.getD i (Ty.dflt ty82)).1 == s with
   | true=>exact ⟨_,rfl,.inr ⟨i,by omega,rfl⟩⟩
   | false=>exact ih
theorem qfc (hv:vs.length≤100000) (s:List UInt8):∃ r,M79 vs ps ts s=some r∧(r = -1∨∃ k:Nat,k<vs.length∧r=(k:Int)):=by
 show ∃ r,T79 Ops.std vs ps ts s (R79 vs ps ts s 1000000) some none=some r∧_
 unfold T79
 exact qdm vs ps ts hv s vs.length 0 1000000 (by omega) (by omega)
def okLocs (ps:List Pcs):Prop:=∀ p∈ps,p.2.length≤100000
theorem okLocs.get {ps:List Pcs} (h:okLocs ps) (k:Nat) (hk:k<ps.length):(ps.getD k (Ty.dflt ty85)).2.length≤100000:=by
 rw [List.getD_eq_getElem?_getD,List.getElem?_eq_getElem hk];exact h _ (List.getElem_mem hk)
theorem qf0 (hl:okLocs ps) (p:Nat) (hp:p<ps.length) (s:List UInt8):∀ (t i n:Nat),i+t=(ps.getD p (Ty.dflt ty85)).2.length→t<n→∃ r,R78 vs ps ts p s n (.l0 i)=some r∧(r = -1∨∃ k:Nat,k<(ps.getD p (Ty.dflt ty85)).2.length∧r=(k:Int))
 | t,i,0,hi,hn=>by omega
 | 0,i,n+1,hi,hn=>by
   show ∃ r,T78 Ops.std vs ps ts p s _ some _=some r∧_
   unfold T78
   simp only [qah,qak,qaa,qac]
   rw [if_pos (by omega),if_neg (by omega)]
   exact ⟨_,rfl,.inl rfl⟩
 | t+1,i,n+1,hi,hn=>by
   have ih:=qf0 hl p hp s t (i+1) n (by omega) (by omega)
   have hg:=hl.get p hp
   show ∃ r,T78 Ops.std vs ps ts p s _ some _=some r∧_
   unfold T78
   simp only [qah,qak,qaa,qac,show IntKind.wrap IntKind.i64 ((i:Int)+1)=((i+1:Nat):Int) from qag (by omega)]
   rw [if_pos (by omega),if_pos (by omega),if_pos (by omega),if_pos (by omega)]
   generalize ((ps.getD p (Ty.dflt ty85)).2.getD i (Ty.dflt Ty.str) == s)=b
   cases b with
   | true=>exact ⟨_,rfl,.inr ⟨i,by omega,rfl⟩⟩
   | false=>exact ih
theorem place_ok (hl:okLocs ps) (p:Int) (hp:p = -1∨∃ k:Nat,k<ps.length∧p=(k:Int)) (s:List UInt8):∃ r,M78 vs ps ts p s=some r∧(0≤r→∃ q:Nat,q<ps.length∧p=(q:Int)):=by
 show ∃ r,T78 Ops.std vs ps ts p s (R78 vs ps ts p s 1000000) some none=some r∧_
 unfold T78
 simp only [qah,qaa]
 rcases hp with rfl | ⟨k,hk,rfl⟩
 ·rw [if_pos (by decide)];exact ⟨_,rfl,fun h=>by omega⟩
 ·rw [if_neg (by omega)]
  obtain ⟨r,h1,h2⟩:=qf0 vs ps ts hl k hk s (ps.getD k (Ty.dflt ty85)).2.length 0 1000000 (by omega) (by have:=hl.get k hk;omega)
  exact ⟨r,h1,fun _=>⟨k,hk,rfl⟩⟩
structure smallG:Prop where
 v:vs.length≤100000
 p:ps.length≤100000
 l:okLocs ps
variable {vs ps}
def knE (vs:List Vrb) (ps:List Pcs) (ts:List Trn) (t:Trm):Prop:=
 (t.1=2→∃ k:Nat,k<vs.length∧M79 vs ps ts t.2.2.1=some (k:Int))∧
 (t.1=3→∃ (q:Nat) (r:Int),q<ps.length∧M75 vs ps ts t.2.2.1=some (q:Int)∧M78 vs ps ts (q:Int) t.2.2.2=some r)
theorem qf1 (hg:smallG vs ps) (e:List Trm) (he:shortE e):∀ (t i n:Nat),i+t=e.length→t<n→(∀ x∈e.take i,knE vs ps ts x)→∃ b,R47 M79 M75 M78 M80 vs ps ts e n (.l0 i)=some b∧(b=true→rightE e=true∧∀ x∈e,knE vs ps ts x)
 | t,i,0,hi,hn,hk=>by omega
 | 0,i,n+1,hi,hn,hk=>by
   show ∃ b,T47 Ops.std _ _ _ _ vs ps ts e _ some _=some b∧_
   unfold T47
   simp only [qah,qaa]
   rw [if_neg (by omega),he.right,ob_s]
   refine ⟨_,rfl,fun h=>⟨h,?_⟩⟩
   rwa [List.take_of_length_le (by omega)] at hk
 | t+1,i,n+1,hi,hn,hk=>by
   have ih:=qf1 hg e he t (i+1) n (by omega) (by omega)
   have h30:=he.1
   obtain ⟨x,hx⟩:∃ x,e.getD i (Ty.dflt ty140)=x:=⟨_,rfl⟩
   have htk:e.take (i+1)=e.take i++[x]:=by
    rw [List.take_succ_eq_append_getElem (by omega)]
    rw [List.getD_eq_getElem?_getD,List.getElem?_eq_getElem (by omega)] at hx
    rw [←hx];rfl
   have nxt:knE vs ps ts x→∀ y∈e.take (i+1),knE vs ps ts y:=fun h y hy=>by
    rw [htk] at hy
    rcases List.mem_append.1 hy with hy | hy
    ·exact hk y hy
    ·simp only [List.mem_singleton] at hy;rw [hy];exact h
   show ∃ b,T47 Ops.std _ _ _ _ vs ps ts e _ some _=some b∧_
   unfold T47
   simp only [qah,qak,qan,qaa,qac,hx,show IntKind.wrap IntKind.i64 ((i:Int)+1)=((i+1:Nat):Int) from qag (by omega)]
   rw [if_pos (by omega),if_pos (by omega)]
   obtain ⟨r,r1,r2⟩:=qfc vs ps ts hg.v x.2.2.1
   obtain ⟨q,q1,q2⟩:=qfz vs ps ts hg.p x.2.2.1
   obtain ⟨z,z1,z2⟩:=place_ok vs ps ts hg.l q q2 x.2.2.2
   by_cases h2:x.1=2
   ·rw [if_pos h2,if_pos (by omega),r1,ob_s]
    by_cases hr:r<0
    ·rw [if_pos hr];exact ⟨_,rfl,fun h=>by cases h⟩
    ·rw [if_neg hr,if_pos (by omega),if_neg (by omega)]
     refine ih (nxt ⟨fun _=>?_,fun h=>by omega⟩)
     rcases r2 with rfl | ⟨k,hk1,rfl⟩
     ·omega
     ·exact ⟨k,hk1,r1⟩
   ·rw [if_neg h2,if_pos (by omega)]
    by_cases h3:x.1=3
    ·rw [if_pos h3,if_pos (by omega),if_pos (by omega),q1,ob_s,z1,ob_s]
     by_cases hz:z<0
     ·rw [if_pos hz];exact ⟨_,rfl,fun h=>by cases h⟩
     ·rw [if_neg hz]
      obtain ⟨q',hq',rfl⟩:=z2 (by omega)
      exact ih (nxt ⟨fun h=>by omega,fun _=>⟨q',z,hq',q1,z1⟩⟩)
    ·rw [if_neg h3]
     exact ih (nxt ⟨fun h=>absurd h h2,fun h=>absurd h h3⟩)
theorem qep (hg:smallG vs ps) (e:List Trm) (he:shortE e):∃ b,M47 vs ps ts e=some b∧(b=true→rightE e=true∧∀ x∈e,knE vs ps ts x):=by
 show ∃ b,T47 Ops.std M79 M75 M78 M80 vs ps ts e (R47 M79 M75 M78 M80 vs ps ts e 1000000) some none=some b∧_
 unfold T47
 exact qf1 ts hg e he e.length 0 1000000 (by omega) (by have:=he.1;omega) (fun x h=>by simp at h)
end
theorem qd2 (l:List (List UInt8)) (hl:l.length≤6):∀ (f i j n:Nat),10*(l.length-i)+(l.length-j)+1≤f→f≤n→i≤l.length→j≤i→i<l.length→∃ b,R45 l n (.l1 i j)=some b
 | f,i,j,0,hf,hn,hi,hj,hil=>by omega
 | f,i,j,n+1,hf,hn,hi,hj,hil=>by
   show ∃ b,T45 Ops.std l _ some _=some b
   unfold T45
   simp only [qah,qak,qaa,qac,show IntKind.wrap IntKind.i64 ((i:Int)+1)=((i+1:Nat):Int) from qag (by omega),show IntKind.wrap IntKind.i64 ((j:Int)+1)=((j+1:Nat):Int) from qag (by omega)]
   by_cases h:j<i
   ·rw [if_pos (by omega),if_pos (by omega),if_pos (by omega)]
    generalize (l.getD i (Ty.dflt ty9) == l.getD j (Ty.dflt ty9))=b
    cases b with
    | true=>exact ⟨_,rfl⟩
    | false=>exact qd2 l hl (f-1) i (j+1) n (by omega) (by omega) hi (by omega) hil
   ·rw [if_neg (by omega)]
    obtain ⟨m,rfl⟩:∃ m,n=m+1:=⟨n-1,by omega⟩
    show ∃ b,T45 Ops.std l _ some _=some b
    unfold T45
    simp only [qah,qaa]
    by_cases h2:i+1<l.length
    ·rw [if_pos (by omega)]
     exact qd2 l hl (f-2) (i+1) 0 m (by omega) (by omega) (by omega) (by omega) h2
    ·rw [if_neg (by omega)];exact ⟨_,rfl⟩
theorem twice_ok (l:List (List UInt8)) (hl:l.length≤6):∃ b,M45 l=some b:=by
 show ∃ b,T45 Ops.std l (R45 l 1000000) some none=some b
 unfold T45
 show ∃ b,T45 Ops.std l (R45 l 999999) some _=some b
 unfold T45
 simp only [qah,qaa]
 by_cases h:0<l.length
 ·rw [if_pos (by omega)]
  exact qd2 l hl 100 0 0 999999 (by omega) (by omega) (by omega) (by omega) h
 ·rw [if_neg (by omega)];exact ⟨_,rfl⟩
theorem take_ext {α:Type} {P:α→Prop} {l:List α} {i:Nat} (hi:i<l.length) (d:α) (h:∀ x∈l.take i,P x) (hx:P (l.getD i d)):∀ x∈l.take (i+1),P x:=by
 intro x hm
 rw [List.take_succ_eq_append_getElem hi] at hm
 rcases List.mem_append.1 hm with hm | hm
 ·exact h x hm
 ·simp only [List.mem_singleton] at hm
  rw [hm]
  rw [List.getD_eq_getElem?_getD,List.getElem?_eq_getElem hi] at hx
  exact hx
theorem qbk {α:Type} {l:List α} {i:Nat} (hi:i<l.length) (d:α):l.getD i d∈l:=by
 rw [List.getD_eq_getElem?_getD,List.getElem?_eq_getElem hi];exact List.getElem_mem hi
structure smallM (vs:List Vrb) (ps:List Pcs) (ts:List Trn):Prop where
 vl:vs.length≤5001
 v:∀ v∈vs,v.1.length≤60000
 pl:ps.length≤5001
 p:∀ p∈ps,p.1.length≤60000∧p.2.length≤60001∧okL 60000 p.2
 tl:ts.length≤5001
 t:∀ t∈ts,okTr t
theorem smallM.g {vs:List Vrb} {ps:List Pcs} {ts:List Trn} (h:smallM vs ps ts):smallG vs ps:=⟨by have:=h.vl;omega,by have:=h.pl;omega,fun p hp=>by have:=(h.p p hp).2.1;omega⟩
def okVar (v:Vrb):Prop:=v.2.1≤v.2.2.2∧v.2.2.2≤v.2.2.1∧-999≤v.2.1∧v.2.2.1≤999
structure goodM (vs:List Vrb) (ps:List Pcs):Prop where
 vl:vs.length≤4
 v:∀ v∈vs,okVar v
 pl:ps.length≤3
 p:∀ p∈ps,1≤p.2.length∧p.2.length≤6
section
variable {vs:List Vrb} {ps:List Pcs} {ts:List Trn} (hM:smallM vs ps ts)
noncomputable abbrev rtR (vs:List Vrb) (ps:List Pcs) (ts:List Trn) (id:Int) (a b c d:List UInt8) (g:List Trm) (ef:List Eff):=R46 M75 M76 M77 M78 M47 M79 vs ps ts id a b c d g ef
include hM in
theorem rt_loop (id:Int) (a b c d:List UInt8) (g:List Trm) (ef:List Eff) (hl:ef.length≤3) (hk:∀ x∈ef,okEf x):∀ (t i n:Nat),i+t=ef.length→t<n→∃ r,rtR vs ps ts id a b c d g ef n (.l0 i)=some r
 | t,i,0,hi,hn=>by omega
 | 0,i,n+1,hi,hn=>by
   show ∃ r,T46 Ops.std _ _ _ _ _ _ vs ps ts id a b c d g ef _ some _=some r
   unfold T46
   simp only [qah,qaa]
   rw [if_neg (by omega)]
   exact ⟨_,rfl⟩
 | t+1,i,n+1,hi,hn=>by
   have ih:=rt_loop id a b c d g ef hl hk t (i+1) n (by omega) (by omega)
   have hx:=hk _ (qbk (show i<ef.length by omega) (Ty.dflt ty138))
   show ∃ r,T46 Ops.std _ _ _ _ _ _ vs ps ts id a b c d g ef _ some _=some r
   unfold T46
   obtain ⟨r,r1,_⟩:=qfc vs ps ts hM.g.v (ef.getD i (Ty.dflt ty138)).1
   obtain ⟨q,q1,_⟩:=qep ts hM.g (ef.getD i (Ty.dflt ty138)).2 hx.short
   simp only [qah,qak,qaa,qac,r1,q1,ob_s,show IntKind.wrap IntKind.i64 ((i:Int)+1)=((i+1:Nat):Int) from qag (by omega)]
   rw [if_pos (by omega),if_pos (by omega)]
   by_cases hr:r<0
   ·rw [if_pos hr];exact ⟨_,rfl⟩
   ·rw [if_neg hr,if_pos (by omega)]
    cases q with
    | false=>exact ⟨_,rfl⟩
    | true=>exact ih
include hM in
theorem rt_ok (t:Trn) (ht:okTr t):∃ r,M46 vs ps ts t.1 t.2.1 t.2.2.1 t.2.2.2.1 t.2.2.2.2.1 t.2.2.2.2.2.1 t.2.2.2.2.2.2=some r:=by
 obtain ⟨id,a,b,c,d,g,ef⟩:=t
 obtain ⟨h1,h2,h3,h4,h5,h6,h7⟩:=ht
 show ∃ r,T46 Ops.std M75 M76 M77 M78 M47 M79 vs ps ts id a b c d g ef (rtR vs ps ts id a b c d g ef 1000000) some none=some r
 unfold T46
 obtain ⟨p,p1,p2⟩:=qfz vs ps ts hM.g.p a
 obtain ⟨ch,ok,c1⟩:=qd1 d (by simp only at h4;omega)
 obtain ⟨x,x1,_⟩:=place_ok vs ps ts hM.g.l p p2 b
 obtain ⟨y,y1,_⟩:=place_ok vs ps ts hM.g.l p p2 c
 obtain ⟨q,q1,_⟩:=qep ts hM.g g h5
 simp only [p1,c1,id_ok,x1,y1,q1,ob_s,qah,qaa]
 cases decide (1≤id∧id≤999) with
 | false=>exact ⟨_,rfl⟩
 | true=>
 cases ok with
 | false=>exact ⟨_,rfl⟩
 | true=>
 simp only [Bool.not_true,cond_false]
 by_cases hx:x<0
 ·rw [if_pos hx];exact ⟨_,rfl⟩
 ·rw [if_neg hx]
  by_cases hy:y<0
  ·rw [if_pos hy];exact ⟨_,rfl⟩
  ·rw [if_neg hy]
   cases q with
   | false=>exact ⟨_,rfl⟩
   | true=>
   simp only [Bool.not_true,cond_false]
   by_cases h3:(3:Int)<((ef.length:Nat):Int)
   ·rw [if_pos h3];exact ⟨_,rfl⟩
   ·rw [if_neg h3]
    exact rt_loop hM id a b c d g ef (by omega) h7 ef.length 0 1000000 (by omega) (by omega)
noncomputable abbrev rmR (vs:List Vrb) (ps:List Pcs) (ts:List Trn):=R18 M11 M44 M45 M46 vs ps ts
include hM in
theorem rm_l3 (h16:ts.length≤16):∀ (t i n:Nat),i+t=ts.length→2*t<n→∃ r,rmR vs ps ts n (.l3 i)=some r
 | t,i,0,hi,hn=>by omega
 | 0,i,n+1,hi,hn=>by
   show ∃ r,T18 Ops.std _ _ _ _ vs ps ts _ some _=some r
   unfold T18
   simp only [qah,qaa]
   rw [if_neg (by omega)]
   exact ⟨_,rfl⟩
 | t+1,i,n+1,hi,hn=>by
   obtain ⟨m,rfl⟩:∃ m,n=m+1:=⟨n-1,by omega⟩
   have ih:=rm_l3 h16 t (i+1) m (by omega) (by omega)
   have h25:rmR vs ps ts (m+1) (.l1025 i)=rmR vs ps ts m (.l3 ((i+1:Nat):Int)):=by
    show T18 Ops.std _ _ _ _ vs ps ts _ some _=_
    unfold T18
    simp only [show IntKind.wrap IntKind.i64 ((i:Int)+1)=((i+1:Nat):Int) from qag (by omega)]
   obtain ⟨r,r1⟩:=rt_ok hM (ts.getD i (Ty.dflt ty91)) (hM.t _ (qbk (by omega) _))
   show ∃ r,T18 Ops.std _ _ _ _ vs ps ts _ some _=some r
   unfold T18
   simp only [qah,qay,qak,qaa,qac,r1,ob_s]
   rw [if_pos (by omega),if_pos (by omega)]
   cases r with
   | false=>exact ⟨_,rfl⟩
   | true=>
   simp only [Bool.not_true,cond_false]
   by_cases h0:(0:Int)<(i:Int)
   ·rw [if_pos h0,if_pos (by omega),show IntKind.wrap IntKind.i64 ((i:Int)-1)=((i-1:Nat):Int) by rw [wrap64 (by omega) (by omega)];omega,if_pos (by omega)]
    split
    ·exact ⟨_,rfl⟩
    ·obtain ⟨r,hr⟩:=ih;exact ⟨r,h25.trans hr⟩
   ·rw [if_neg h0];obtain ⟨r,hr⟩:=ih;exact ⟨r,h25.trans hr⟩
theorem rm_l2 (Q:Bool→Prop) (hQ:Q false) (i:Nat) (hi:i<100000) (vn pn:List (List UInt8)) (nm:List UInt8) (locs:List (List UInt8)) (hl:locs.length≤6) (hk:okL 60000 locs) (N:Nat) (hc:∀ m,N≤m→∃ r,rmR vs ps ts m (.l1 ((i+1:Nat):Int) vn pn)=some r∧Q r) :
  ∀ (t j n:Nat),j+t=locs.length→N+t<n→∃ r,rmR vs ps ts n (.l2 i j vn pn nm locs)=some r∧Q r
 | t,j,0,hj,hn=>by omega
 | 0,j,n+1,hj,hn=>by
   show ∃ r,T18 Ops.std _ _ _ _ vs ps ts _ some _=some r∧_
   unfold T18
   simp only [qah,qaa,show IntKind.wrap IntKind.i64 ((i:Int)+1)=((i+1:Nat):Int) from qag (by omega)]
   rw [if_neg (by omega)]
   exact hc n (by omega)
 | t+1,j,n+1,hj,hn=>by
   have ih:=rm_l2 Q hQ i hi vn pn nm locs hl hk N hc t (j+1) n (by omega) (by omega)
   show ∃ r,T18 Ops.std _ _ _ _ vs ps ts _ some _=some r∧_
   unfold T18
   have hlen:=hk.get j
   simp only [qah,qak,qaa,qac,show IntKind.wrap IntKind.i64 ((j:Int)+1)=((j+1:Nat):Int) from qag (by omega)]
   rw [if_pos (by omega),if_pos (by omega),qbe _ (by have:(locs.getD j (Ty.dflt ty9)).length≤60000:=hlen;omega),ob_s]
   cases isWordP (locs.getD j (Ty.dflt ty9)) with
   | false=>exact ⟨false,rfl,hQ⟩
   | true=>exact ih
include hM in
theorem rm_l1 (hv:vs.length≤4→∀ v∈vs,okVar v):∀ (t i n:Nat) (vn pn:List (List UInt8)),i+t=ps.length→12*t+100<n→vn.length=vs.length→pn.length=i→(∀ p∈ps.take i,1≤p.2.length∧p.2.length≤6)→∃ r,rmR vs ps ts n (.l1 i vn pn)=some r∧(r=true→goodM vs ps)
 | t,i,0,vn,pn,hi,hn,h1,h2,hk=>by omega
 | 0,i,n+1,vn,pn,hi,hn,h1,h2,hk=>by
   show ∃ r,T18 Ops.std _ _ _ _ vs ps ts _ some _=some r∧_
   unfold T18
   simp only [qah,qaa]
   rw [if_neg (by omega)]
   have bad:∃ r:Bool,(some false:Option Bool)=some r∧(r=true→goodM vs ps):=⟨false,rfl,fun h=>by cases h⟩
   by_cases c1:(4:Int)<((vn.length:Nat):Int)
   ·rw [if_pos c1];exact bad
   ·rw [if_neg c1]
    by_cases c2:((pn.length:Nat):Int)<1
    ·rw [if_pos c2];exact bad
    ·rw [if_neg c2]
     by_cases c3:(3:Int)<((pn.length:Nat):Int)
     ·rw [if_pos c3];exact bad
     ·rw [if_neg c3]
      by_cases c4:(16:Int)<((ts.length:Nat):Int)
      ·rw [if_pos c4];exact bad
      ·rw [if_neg c4]
       obtain ⟨x,x1⟩:=twice_ok vn (by omega)
       obtain ⟨y,y1⟩:=twice_ok pn (by omega)
       rw [x1,ob_s]
       cases x with
       | true=>exact bad
       | false=>
       simp only [cond_false]
       rw [y1,ob_s]
       cases y with
       | true=>exact bad
       | false=>
       simp only [cond_false]
       obtain ⟨m,rfl⟩:∃ m,n=m+1:=⟨n-1,by omega⟩
       have h23:rmR vs ps ts (m+1) .l1023=rmR vs ps ts m (.l3 0):=rfl
       obtain ⟨r,r1⟩:=rm_l3 hM (by omega) ts.length 0 m (by omega) (by omega)
       refine ⟨r,h23.trans r1,fun _=>⟨by omega,hv (by omega),by omega,?_⟩⟩
       rwa [List.take_of_length_le (by omega)] at hk
 | t+1,i,n+1,vn,pn,hi,hn,h1,h2,hk=>by
   have hpl:=hM.pl
   have hx:=hM.p _ (qbk (show i<ps.length by omega) (Ty.dflt ty85))
   have bad:∃ r:Bool,(some false:Option Bool)=some r∧(r=true→goodM vs ps):=⟨false,rfl,fun h=>by cases h⟩
   show ∃ r,T18 Ops.std _ _ _ _ vs ps ts _ some _=some r∧_
   unfold T18
   simp only [qah,qak,qas,qaa,qac,mt,List.length_cons,List.length_nil]
   rw [if_pos (by omega),if_pos (by omega),if_pos (by omega),qbe _ (by have:=hx.1;omega),ob_s]
   cases isWordP (ps.getD i (Ty.dflt ty85)).1 with
   | false=>exact bad
   | true=>
   simp only [Bool.not_true,cond_false]
   by_cases c1:(((ps.getD i (Ty.dflt ty85)).2.length:Nat):Int)<1
   ·rw [if_pos c1];exact bad
   ·rw [if_neg c1]
    by_cases c2:(6:Int)<(((ps.getD i (Ty.dflt ty85)).2.length:Nat):Int)
    ·rw [if_pos c2];exact bad
    ·rw [if_neg c2]
     obtain ⟨x,x1⟩:=twice_ok (ps.getD i (Ty.dflt ty85)).2 (by omega)
     rw [x1,ob_s]
     cases x with
     | true=>exact bad
     | false=>
     simp only [cond_false]
     obtain ⟨m,rfl⟩:∃ m,n=m+1:=⟨n-1,by omega⟩
     have h16:∀ vn pn nm locs,rmR vs ps ts (m+1) (.l1016 i vn pn nm locs)=rmR vs ps ts m (.l2 i 0 vn pn nm locs):=fun _ _ _ _=>rfl
     obtain ⟨r,r1,r2⟩:=rm_l2 (ts:=ts) (fun r=>r=true→goodM vs ps) (fun h=>by cases h) i (by omega) vn (pn++[(ps.getD i (Ty.dflt ty85)).1]) (ps.getD i (Ty.dflt ty85)).1 (ps.getD i (Ty.dflt ty85)).2 (by omega) hx.2.2 (12*t+101)
      (fun k hkk=>rm_l1 hv t (i+1) k vn (pn++[(ps.getD i (Ty.dflt ty85)).1]) (by omega) (by omega) h1 (by simp;omega) (take_ext (by omega) (Ty.dflt ty85) hk ⟨by omega,by omega⟩)) _ 0 m (Nat.zero_add _) (by omega)
     exact ⟨r,(h16 _ _ _ _).trans r1,r2⟩
include hM in
theorem rm_l0:∀ (t i n:Nat) (vn:List (List UInt8)),i+t=vs.length→2*t+70000<n→vn.length=i→(∀ v∈vs.take i,okVar v)→∃ r,rmR vs ps ts n (.l0 i vn)=some r∧(r=true→goodM vs ps)
 | t,i,0,vn,hi,hn,h1,hk=>by omega
 | 0,i,n+1,vn,hi,hn,h1,hk=>by
   have hpl:=hM.pl
   show ∃ r,T18 Ops.std _ _ _ _ vs ps ts _ some _=some r∧_
   unfold T18
   simp only [qah,qaa]
   rw [if_neg (by omega)]
   rw [List.take_of_length_le (by omega)] at hk
   exact rm_l1 hM (fun _=>hk) ps.length 0 n vn [] (by omega) (by omega) (by omega) rfl (fun p h=>by simp at h)
 | t+1,i,n+1,vn,hi,hn,h1,hk=>by
   have hvl:=hM.vl
   obtain ⟨m,rfl⟩:∃ m,n=m+1:=⟨n-1,by omega⟩
   have h04:∀ vn,rmR vs ps ts (m+1) (.l1004 i vn)=rmR vs ps ts m (.l0 ((i+1:Nat):Int) vn):=fun vn=>by
    show T18 Ops.std _ _ _ _ vs ps ts _ some _=_
    unfold T18
    simp only [show IntKind.wrap IntKind.i64 ((i:Int)+1)=((i+1:Nat):Int) from qag (by omega)]
   have hx:=hM.v _ (qbk (show i<vs.length by omega) (Ty.dflt ty82))
   have bad:∃ r:Bool,(some false:Option Bool)=some r∧(r=true→goodM vs ps):=⟨false,rfl,fun h=>by cases h⟩
   have ih:=rm_l0 t (i+1) m
   show ∃ r,T18 Ops.std _ _ _ _ vs ps ts _ some _=some r∧_
   unfold T18
   obtain ⟨x,hxe⟩:∃ x,vs.getD i (Ty.dflt ty82)=x:=⟨_,rfl⟩
   rw [hxe] at hx
   simp only [qah,qak,qas,qaa,qac,mt,List.length_cons,List.length_nil,hxe,w999_ok,ob_s]
   rw [if_pos (by omega),if_pos (by omega),if_pos (by omega),qbe _ (by omega),ob_s]
   cases isWordP x.1 with
   | false=>exact bad
   | true=>
   simp only [Bool.not_true,cond_false,qa4,qaa]
   by_cases c1:x.2.2.2<x.2.1
   ·rw [if_pos c1];exact bad
   ·rw [if_neg c1]
    by_cases c2:x.2.2.1<x.2.2.2
    ·rw [if_pos c2];exact bad
    ·rw [if_neg c2]
     by_cases c3:-999≤x.2.1∧x.2.1≤999
     ·rw [if_neg (fun h=>h c3)]
      by_cases c4:-999≤x.2.2.1∧x.2.2.1≤999
      ·rw [if_neg (fun h=>h c4)]
       obtain ⟨r,r1,r2⟩:=ih (vn++[x.1]) (by omega) (by omega) (by simp;omega) (take_ext (by omega) (Ty.dflt ty82) hk (by rw [hxe];exact ⟨by omega,by omega,c3.1,c4.2⟩))
       exact ⟨r,(h04 _).trans r1,r2⟩
      ·rw [if_pos c4];exact bad
     ·rw [if_pos c3];exact bad
include hM in
theorem qdn:∃ r,M18 vs ps ts=some r∧(r=true→goodM vs ps):=by
 have hvl:=hM.vl
 show ∃ r,T18 Ops.std M11 M44 M45 M46 vs ps ts (rmR vs ps ts 1000000) some none=some r∧_
 unfold T18
 exact rm_l0 hM vs.length 0 1000000 [] (by omega) (by omega) rfl (fun v h=>by simp at h)
end
theorem smallM_nil:smallM [] [] []:=⟨by simp,fun v h=>(by cases h),by simp,fun v h=>(by cases h),by simp,fun v h=>by cases h⟩
def rightOr (vs:List Vrb) (ps:List Pcs) (ts:List Trn):Prop:=smallM vs ps ts∧((M18 vs ps ts=some true∧goodM vs ps)∨(vs=[]∧ps=[]∧ts=[]))
theorem qfd:rightOr [] [] []:=⟨smallM_nil,.inr ⟨rfl,rfl,rfl⟩⟩
noncomputable abbrev pmR (s:List UInt8):=R39 M66 M67 M68 M70 M69 M18 s
structure soFar (vs:List Vrb) (ps:List Pcs) (ts:List Trn) (i:Nat):Prop where
 vl:vs.length≤i
 v:∀ v∈vs,v.1.length≤60000
 pl:ps.length≤i
 p:∀ p∈ps,p.1.length≤60000∧p.2.length≤60001∧okL 60000 p.2
 tl:ts.length≤i
 t:∀ t∈ts,okTr t
theorem mem_app {α:Type} {P:α→Prop} {l:List α} {x:α} (h:∀ y∈l,P y) (hx:P x):∀ y∈l++[x],P y:=fun y hy=>by
 rcases List.mem_append.1 hy with hy | hy
 ·exact h y hy
 ·simp only [List.mem_singleton] at hy;rw [hy];exact hx
theorem pm_loop (s:List UInt8) (L:List (List UInt8)) (hL:L.length≤5001) (hk:okL 5000 L):∀ (t i n:Nat) (st:Int) (vs:List Vrb) (ps:List Pcs) (ts:List Trn),i+t=L.length→t<n→soFar vs ps ts i→
  ∃ vs' ps' ts' e x,pmR s n (.l0 st i L vs ps ts)=some (vs',ps',ts',e,x)∧rightOr vs' ps' ts'
 | t,i,0,st,vs,ps,ts,hi,hn,hs=>by omega
 | 0,i,n+1,st,vs,ps,ts,hi,hn,hs=>by
   have bad:∃ vs' ps' ts' e x,(some (([]:List Vrb),([]:List Pcs),([]:List Trn),(2:Int),(0:Int)))=some (vs',ps',ts',e,x)∧rightOr vs' ps' ts':=⟨_,_,_,_,_,rfl,qfd⟩
   have hM:smallM vs ps ts:=⟨by have:=hs.vl;omega,hs.v,by have:=hs.pl;omega,hs.p,by have:=hs.tl;omega,hs.t⟩
   show ∃ vs' ps' ts' e x,T39 Ops.std _ _ _ _ _ _ s _ some _=some (vs',ps',ts',e,x)∧_
   unfold T39
   simp only [qah,qaa]
   rw [if_neg (by omega)]
   obtain ⟨r,r1,r2⟩:=qdn hM
   rw [r1,ob_s]
   cases r with
   | false=>exact bad
   | true=>exact ⟨_,_,_,_,_,rfl,hM,.inl ⟨r1,r2 rfl⟩⟩
 | t+1,i,n+1,st,vs,ps,ts,hi,hn,hs=>by
   have ih:=fun st vs ps ts=>pm_loop s L hL hk t (i+1) n st vs ps ts (by omega) (by omega)
   have hmono:soFar vs ps ts (i+1):=⟨by have:=hs.vl;omega,hs.v,by have:=hs.pl;omega,hs.p,by have:=hs.tl;omega,hs.t⟩
   have bad:∀ k:Int,∃ vs' ps' ts' e x,(some (([]:List Vrb),([]:List Pcs),([]:List Trn),(2:Int),k))=some (vs',ps',ts',e,x)∧rightOr vs' ps' ts':=fun k=>⟨_,_,_,_,_,rfl,qfd⟩
   have hvl:=hs.vl
   have hpl:=hs.pl
   have htl:=hs.tl
   show ∃ vs' ps' ts' e x,T39 Ops.std _ _ _ _ _ _ s _ some _=some (vs',ps',ts',e,x)∧_
   unfold T39
   have hlen:(L.getD i (Ty.dflt ty9)).length≤5000:=hk.get i
   simp only [qah,qak,qas,qa4,qaa,qac,mt,List.length_cons,List.length_nil,show IntKind.wrap IntKind.i64 ((i:Int)+1)=((i+1:Nat):Int) from qag (by omega)]
   rw [if_pos (by omega),if_pos (by omega)]
   cases (L.getD i (Ty.dflt ty9)) == ([]:List UInt8) with
   | true=>exact ih st vs ps ts hmono
   | false=>
   simp only [cond_false]
   rw [if_pos (by omega)]
   obtain ⟨w,w1,w2,w3⟩:=words_ok (L.getD i (Ty.dflt ty9)) (by omega)
   rw [w1,ob_s]
   have w3':okL 60000 w:=fun x hx=>by have:=w3 x hx;omega
   by_cases h0:(0:Int)<((w.length:Nat):Int)
   ·rw [if_pos h0,if_pos (by omega)]
    cases (w.getD (Int.toNat 0) (Ty.dflt ty9)) == ([118,97,114]:List UInt8) with
    | true=>
      simp only [cond_true]
      obtain ⟨nm,lo,hi',ini,ok,v1,v2⟩:=parseVar_ok (List.drop (Int.toNat 1) (List.take w.length w)) 60000 (fun x hx=>w3' x (List.mem_of_mem_take (List.mem_of_mem_drop hx)))
      rw [if_pos (by omega),v1,ob_s]
      dsimp only
      rw [if_pos (by omega)]
      cases ok with
      | false=>exact bad _
      | true=>
      simp only [Bool.not_true,cond_false]
      split
      ·exact bad _
      ·exact ih _ _ _ _ ⟨by simp;omega,mem_app hs.v v2,by omega,hs.p,by omega,hs.t⟩
    | false=>
    simp only [cond_false]
    cases (w.getD (Int.toNat 0) (Ty.dflt ty9)) == ([112,114,111,99]:List UInt8) with
    | true=>
      simp only [cond_true]
      by_cases h1:(1:Int)<((w.length:Nat):Int)
      ·rw [if_pos h1,if_pos (by omega),if_pos (by omega),if_pos (by omega),if_neg (fun h=>h h1)]
       split
       ·exact bad _
       ·exact ih _ _ _ _ ⟨by omega,hs.v,by simp;omega,mem_app hs.p ⟨w3'.get (Int.toNat 1),by simp;omega,fun x hx=>w3' x (List.mem_of_mem_take (List.mem_of_mem_drop hx))⟩,by omega,hs.t⟩
      ·rw [if_neg h1,if_pos h1];exact bad _
    | false=>
    simp only [cond_false]
    cases (w.getD (Int.toNat 0) (Ty.dflt ty9)) == ([116,114,97,110,115]:List UInt8) with
    | true=>
      simp only [cond_true]
      obtain ⟨r,r1,r2⟩:=skip_ok (L.getD i (Ty.dflt ty9)) (by omega) 1 (by omega)
      have r1':M70 (L.getD i (Ty.dflt ty9)) 1=some r:=r1
      obtain ⟨id,a,b,c,d,g,ef,ok,t1,t2⟩:=parseTrans_ok r (by omega)
      rw [if_pos (by omega),r1',ob_s,t1,ob_s]
      dsimp only
      rw [if_pos (by omega)]
      cases ok with
      | false=>exact bad _
      | true=>
      simp only [Bool.not_true,cond_false]
      split
      ·exact bad _
      ·exact ih _ _ _ _ ⟨by omega,hs.v,by omega,hs.p,by simp;omega,mem_app hs.t t2⟩
    | false=>exact bad _
   ·rw [if_neg h0];exact bad _
theorem parseModel_ok (s:List UInt8) (hs:s.length≤5000):∃ vs ps ts e x,M39 s=some (vs,ps,ts,e,x)∧rightOr vs ps ts:=by
 show ∃ vs ps ts e x,T39 Ops.std M66 M67 M68 M70 M69 M18 s (pmR s 1000000) some none=some (vs,ps,ts,e,x)∧_
 unfold T39
 simp only [qah,qaa]
 rw [if_neg (by omega)]
 obtain ⟨L,l1,l2,l3,l4⟩:=cut_ok s (by omega) 10
 rw [l1,ob_s]
 exact pm_loop s L (by omega) (fun x hx=>by have:=l4 x hx;omega) L.length 0 1000000 0 [] [] [] (by omega) (by omega) ⟨by simp,fun v h=>(by cases h),by simp,fun v h=>(by cases h),by simp,fun v h=>by cases h⟩
theorem Model_ok2 (p0 p1:Int) (p2:List (List Int)):∃ vs ps ts,M13 p0 p1 p2=some (vs,ps,ts)∧rightOr vs ps ts:=by
 obtain ⟨s,s1,s2⟩:=Text_ok p0 p1 p2
 obtain ⟨vs,ps,ts,e,x,h1,h2⟩:=parseModel_ok s s2
 refine ⟨vs,ps,ts,?_,h2⟩
 show T13 Ops.std M40 M39 p0 p1 p2 some=_
 unfold T13
 rw [s1,ob_s,h1,ob_s]
theorem Model_ok (p0 p1:Int) (p2:List (List Int)):∃ vs ps ts,M13 p0 p1 p2=some (vs,ps,ts)∧smallM vs ps ts:=by
 obtain ⟨vs,ps,ts,h1,h2,_⟩:=Model_ok2 p0 p1 p2
 exact ⟨vs,ps,ts,h1,h2⟩
theorem goodM_nil:goodM [] []:=⟨by simp,fun v h=>(by cases h),by simp,fun p h=>by cases h⟩
theorem rightOr.good {vs:List Vrb} {ps:List Pcs} {ts:List Trn} (h:rightOr vs ps ts):goodM vs ps:=by
 rcases h.2 with h | ⟨rfl,rfl,rfl⟩
 ·exact h.2
 ·exact goodM_nil
def fnB (l:List Bool) (i:Nat):Bool:=l.getD i (Ty.dflt ty4)
theorem fnB_set (l:List Bool) (i:Nat) (hi:i<l.length) (v:Bool) (j:Nat):fnB (l.set i v) j=if j=i then v else fnB l j:=by
 unfold fnB
 rw [List.getD_eq_getElem?_getD,List.getD_eq_getElem?_getD,List.getElem?_set]
 by_cases h:i=j
 ·subst h;simp [hi]
 ·rw [if_neg h,if_neg (Ne.symm h)]
def stepB (op:Int) (a b:Nat→Bool) (i j:Nat) (o:Nat→Bool):Bool:=
 if op=4 then !a i
 else if op=5 then a i && b i
 else if op=6 then a i || b i
 else if op=7 then !a i || b i
 else if op=8 then a j
 else if op=9 then b i || (a i && o j)
 else if op=10 then b i && (a i || o j)
 else if op=11 then a i || o j
 else if op=12 then a i && o j
 else o i
def swL (op:Int) (a b:List Bool) (n back:Nat):Nat→List Bool→List Bool
 | 0,out=>out
 | k+1,out=>swL op a b n back k (out.set k (stepB op (fnB a) (fnB b) k (nx n back k) (fnB out)))
theorem qcs (op:Int) (a b:List Bool) (n back:Nat):∀ (k:Nat) (out:List Bool),(swL op a b n back k out).length=out.length
 | 0,out=>rfl
 | k+1,out=>by rw [swL,qcs op a b n back k];simp
section
variable (op:Int) (a b:List Bool) (n back:Nat) (hb:back<n) (hn:n≤100)
noncomputable abbrev trR:=R54 op a b (n:Nat) (back:Nat)
def lensOk:Prop:=(op=4∨op=5∨op=6∨op=7∨op=8∨op=9∨op=10∨op=11∨op=12→a.length=n)∧(op=5∨op=6∨op=7∨op=9∨op=10→b.length=n)
include hb in
theorem tr_1015 (hl:lensOk op a b n) (m r i:Nat) (hi:i<n) (out:List Bool) (ho:out.length=n) :
  trR op a b n back (m+1) (.l1015 r i (nx n back i:Nat) out)=trR op a b n back m (.l1011 r i (out.set i (stepB op (fnB a) (fnB b) i (nx n back i) (fnB out)))):=by
 have hj:=nx_lt n back hb hi
 obtain ⟨la,lb⟩:=hl
 have hset:out.set i (out.getD i (Ty.dflt ty4))=out:=by
  apply List.ext_getElem?
  intro k
  rw [List.getElem?_set]
  by_cases hk:i=k
  ·subst hk
   rw [if_pos rfl,if_pos (by omega),List.getD_eq_getElem?_getD,List.getElem?_eq_getElem (by omega)];rfl
  ·rw [if_neg hk]
 show T54 Ops.std op a b (n:Nat) (back:Nat) _ some _=_
 unfold T54 stepB
 simp only [qan,qak,qaa,qac,ho]
 have ci:(0:Int)≤(i:Int)∧(i:Int)<((n:Nat):Int):=by omega
 have cj:(0:Int)≤((nx n back i:Nat):Int)∧((nx n back i:Nat):Int)<((n:Nat):Int):=by omega
 by_cases h4:op=4
 ·rw [if_pos h4,if_pos h4,la (by omega)];simp only [if_pos ci,if_pos cj];rfl
 rw [if_neg h4,if_neg h4]
 by_cases h5:op=5
 ·rw [if_pos h5,if_pos h5,la (by omega),lb (by omega)];simp only [if_pos ci,if_pos cj]
  show cond (fnB a i) _ _=_
  cases fnB a i<;>rfl
 rw [if_neg h5,if_neg h5]
 by_cases h6:op=6
 ·rw [if_pos h6,if_pos h6,la (by omega),lb (by omega)];simp only [if_pos ci,if_pos cj]
  show cond (fnB a i) _ _=_
  cases fnB a i<;>rfl
 rw [if_neg h6,if_neg h6]
 by_cases h7:op=7
 ·rw [if_pos h7,if_pos h7,la (by omega),lb (by omega)];simp only [if_pos ci,if_pos cj]
  show cond (!fnB a i) _ _=_
  cases fnB a i<;>rfl
 rw [if_neg h7,if_neg h7]
 by_cases h8:op=8
 ·rw [if_pos h8,if_pos h8,la (by omega)];simp only [if_pos ci,if_pos cj];rfl
 rw [if_neg h8,if_neg h8]
 by_cases h9:op=9
 ·rw [if_pos h9,if_pos h9,la (by omega),lb (by omega)];simp only [if_pos ci,if_pos cj]
  show cond (fnB b i) _ (cond (fnB a i) _ _)=_
  cases fnB b i<;>cases fnB a i<;>rfl
 rw [if_neg h9,if_neg h9]
 by_cases h10:op=10
 ·rw [if_pos h10,if_pos h10,la (by omega),lb (by omega)];simp only [if_pos ci,if_pos cj]
  show cond (fnB b i) (cond (fnB a i) _ _) _=_
  cases fnB b i<;>cases fnB a i<;>rfl
 rw [if_neg h10,if_neg h10]
 by_cases h11:op=11
 ·rw [if_pos h11,if_pos h11,la (by omega)];simp only [if_pos ci,if_pos cj]
  show cond (fnB a i) _ _=_
  cases fnB a i<;>rfl
 rw [if_neg h11,if_neg h11]
 by_cases h12:op=12
 ·rw [if_pos h12,if_pos h12,la (by omega)];simp only [if_pos ci,if_pos cj]
  show cond (fnB a i) _ _=_
  cases fnB a i<;>rfl
 rw [if_neg h12,if_neg h12]
 show _=trR op a b n back m (.l1011 r i (out.set i (out.getD i (Ty.dflt ty4))))
 rw [hset]
include hb hn in
theorem tr_step (hl:lensOk op a b n) (m r i:Nat) (hr:r<1000) (hi:i<n) (out:List Bool) (ho:out.length=n) :
  trR op a b n back (m+3) (.l2 r ((i+1:Nat)-1:Int) out)=trR op a b n back m (.l2 r ((i:Nat)-1:Int) (out.set i (stepB op (fnB a) (fnB b) i (nx n back i) (fnB out)))):=by
 have h2:trR op a b n back (m+2+1) (.l2 r (i:Nat) out)=trR op a b n back (m+2) (.l1015 r i (nx n back i:Nat) out):=by
  show T54 Ops.std op a b (n:Nat) (back:Nat) _ some _=_
  unfold T54
  simp only [qay,qan,qaa]
  rw [if_pos (by omega),show IntKind.wrap IntKind.i64 ((i:Int)+1)=((i+1:Nat):Int) from qag (by omega)]
  unfold nx
  by_cases h:i+1=n
  ·rw [if_pos (by omega),if_pos h]
  ·rw [if_neg (by omega),if_neg h]
 have e1:((i+1:Nat)-1:Int)=(i:Nat):=by omega
 rw [e1]
 refine h2.trans ((tr_1015 op a b n back hb hl (m+1) r i hi out ho).trans ?_)
 show T54 Ops.std op a b (n:Nat) (back:Nat) _ some _=_
 unfold T54
 simp only [wrap64 (show -9223372036854775808≤(i:Int)-1 by omega) (by omega)]
include hb hn in
theorem tr_sweep (hl:lensOk op a b n) (r:Nat) (hr:r<1000):∀ (k:Nat),k≤n→∀ (m:Nat) (out:List Bool),out.length=n→
  trR op a b n back (m+3*k) (.l2 r ((k:Nat)-1:Int) out)=trR op a b n back m (.l2 r (-1) (swL op a b n back k out))
 | 0,hk,m,out,ho=>rfl
 | k+1,hk,m,out,ho=>by
   have h1:=tr_step op a b n back hb hn hl (m+3*k) r k hr (by omega) out ho
   rw [show m+3*(k+1)=m+3*k+3 by omega]
   refine h1.trans ?_
   exact tr_sweep hl r hr k (by omega) m _ (by simp [ho])
def swN (k:Nat) (out:List Bool):List Bool:=match k with
 | 0=>out
 | k+1=>swN k (swL op a b n back n out)
theorem swN_len:∀ (k:Nat) (out:List Bool),(swN op a b n back k out).length=out.length
 | 0,out=>rfl
 | k+1,out=>by rw [swN,swN_len k,qcs]
include hb hn in
theorem tr_last (hop:op=9∨op=10∨op=11∨op=12) (hl:lensOk op a b n):∀ (t r f:Nat),r+t=n+2→400*t<f→∀ (out:List Bool),out.length=n→trR op a b n back f (.l1 r out)=some (swN op a b n back t out)
 | 0,r,f,hr,hf,out,ho=>by
   obtain ⟨g,rfl⟩:∃ g,f=g+1:=⟨f-1,by omega⟩
   show T54 Ops.std op a b (n:Nat) (back:Nat) _ some _=_
   unfold T54
   simp only [qay,qaa,show IntKind.wrap IntKind.i64 ((n:Int)+1)=((n+1:Nat):Int) from qag (by omega)]
   rw [if_neg (by omega)]
   rfl
 | t+1,r,f,hr,hf,out,ho=>by
   obtain ⟨g,rfl⟩:∃ g,f=(g+1+1)+3*n+1:=⟨f-3*n-3,by omega⟩
   have h1:trR op a b n back ((g+1+1)+3*n+1) (.l1 r out)=trR op a b n back ((g+1+1)+3*n) (.l2 r ((n:Nat)-1:Int) out):=by
    show T54 Ops.std op a b (n:Nat) (back:Nat) _ some _=_
    unfold T54
    simp only [qay,qaa,show IntKind.wrap IntKind.i64 ((n:Int)+1)=((n+1:Nat):Int) from qag (by omega),wrap64 (show -9223372036854775808≤(n:Int)-1 by omega) (by omega)]
    rw [if_pos (by omega)]
   have h2:=tr_sweep op a b n back hb hn hl r (by omega) n (Nat.le_refl _) (g+1+1) out ho
   have h3:trR op a b n back (g+1+1) (.l2 r (-1) (swL op a b n back n out))=trR op a b n back g (.l1 ((r+1:Nat):Int) (swL op a b n back n out)):=by
    have e:trR op a b n back (g+1+1) (.l2 r (-1) (swL op a b n back n out))=trR op a b n back (g+1) (.l1008 r (swL op a b n back n out)):=by
     show T54 Ops.std op a b (n:Nat) (back:Nat) _ some _=_
     unfold T54
     simp only [qay,qan,qa4,qaa]
     rw [if_neg (by omega)]
     rcases hop with h | h | h | h
     ·rw [if_neg (fun x=>x h)]
     ·rw [if_pos (by omega),if_neg (fun x=>x h)]
     ·rw [if_pos (by omega),if_pos (by omega),if_neg (fun x=>x h)]
     ·rw [if_pos (by omega),if_pos (by omega),if_pos (by omega),if_neg (fun x=>x h)]
    refine e.trans ?_
    show T54 Ops.std op a b (n:Nat) (back:Nat) _ some _=_
    unfold T54
    simp only [show IntKind.wrap IntKind.i64 ((r:Int)+1)=((r+1:Nat):Int) from qag (by omega)]
   refine h1.trans (h2.trans (h3.trans ?_))
   exact tr_last hop hl t (r+1) g (by omega) (by omega) _ (by rw [qcs];exact ho)
include hb hn in
theorem tr_once (hop:op≠9∧op≠10∧op≠11∧op≠12) (hl:lensOk op a b n) (f:Nat) (hf:400<f) (out:List Bool) (ho:out.length=n):trR op a b n back f (.l1 0 out)=some (swL op a b n back n out):=by
 obtain ⟨g,rfl⟩:∃ g,f=(g+1)+3*n+1:=⟨f-3*n-2,by omega⟩
 have h1:trR op a b n back ((g+1)+3*n+1) (.l1 0 out)=trR op a b n back ((g+1)+3*n) (.l2 (0:Nat) ((n:Nat)-1:Int) out):=by
  show T54 Ops.std op a b (n:Nat) (back:Nat) _ some _=_
  unfold T54
  simp only [qay,qaa,show IntKind.wrap IntKind.i64 ((n:Int)+1)=((n+1:Nat):Int) from qag (by omega),wrap64 (show -9223372036854775808≤(n:Int)-1 by omega) (by omega)]
  rw [if_pos (by omega)]
  rfl
 have h2:=tr_sweep op a b n back hb hn hl 0 (by omega) n (Nat.le_refl _) (g+1) out ho
 refine h1.trans (h2.trans ?_)
 show T54 Ops.std op a b (n:Nat) (back:Nat) _ some _=_
 unfold T54
 simp only [qay,qan,qa4,qaa]
 rw [if_neg (by omega),if_pos hop.1,if_pos hop.2.1,if_pos hop.2.2.1,if_pos hop.2.2.2]
def ini (op:Int):Bool:=decide (op=10∨op=12∨op=1)
include hn in
theorem tr_init:∀ (t i f:Nat),i+t=n→2*t+1<f→∀ (out:List Bool),out.length=n→(∀ j,j<i→fnB out j=ini op)→∃ (g:Nat) (out':List Bool),f≤g+2*t+1∧trR op a b n back f (.l0 i out)=trR op a b n back g (.l1 0 out')∧out'.length=n∧∀ j,j<n→fnB out' j=ini op
 | 0,i,f,hi,hf,out,ho,hk=>by
   obtain ⟨g,rfl⟩:∃ g,f=g+1:=⟨f-1,by omega⟩
   refine ⟨g,out,by omega,?_,ho,fun j hj=>hk j (by omega)⟩
   show T54 Ops.std op a b (n:Nat) (back:Nat) _ some _=_
   unfold T54
   simp only [qah,qaa]
   rw [if_neg (by omega)]
 | t+1,i,f,hi,hf,out,ho,hk=>by
   obtain ⟨g,rfl⟩:∃ g,f=g+1+1:=⟨f-2,by omega⟩
   have h1:trR op a b n back (g+1+1) (.l0 i out)=trR op a b n back (g+1) (.l1004 i (out.set i (ini op))):=by
    show T54 Ops.std op a b (n:Nat) (back:Nat) _ some _=_
    unfold T54 ini
    simp only [qah,qan,qak,qaa,qac,ho]
    rw [if_pos (by omega)]
    by_cases h10:op=10
    ·rw [if_pos h10,if_pos (by omega),decide_eq_true (.inl h10)]
    ·rw [if_neg h10]
     by_cases h12:op=12
     ·rw [if_pos h12,if_pos (by omega),decide_eq_true (.inr (.inl h12))]
     ·rw [if_neg h12,if_pos (by omega)]
      congr 3
      simp [h10,h12]
   have h2:trR op a b n back (g+1) (.l1004 i (out.set i (ini op)))=trR op a b n back g (.l0 ((i+1:Nat):Int) (out.set i (ini op))):=by
    show T54 Ops.std op a b (n:Nat) (back:Nat) _ some _=_
    unfold T54
    simp only [show IntKind.wrap IntKind.i64 ((i:Int)+1)=((i+1:Nat):Int) from qag (by omega)]
   obtain ⟨g',out',e1,e2,e3,e4⟩:=tr_init t (i+1) g (by omega) (by omega) (out.set i (ini op)) (by simp [ho]) fun j hj=>by
    rw [fnB_set _ _ (by omega)]
    by_cases h:j=i
    ·rw [if_pos h]
    ·rw [if_neg h];exact hk j (by omega)
   exact ⟨g',out',by omega,h1.trans (h2.trans e2),e3,e4⟩
def rowOK (op:Int) (a b:Nat→Bool) (n back:Nat) (i:Nat):Bool:=
 if op=1 then true else if op=2∨op=3 then false
 else if op=4∨op=8∨op=11∨op=12 then sem1 n back op a i else sem2 n back op a b i
theorem swL_fn (g:Nat→Bool→Bool) (hg:∀ i o,i<n→stepB op (fnB a) (fnB b) i (nx n back i) o=g i (o (nx n back i))):∀ (k:Nat),k≤n→∀ (out:List Bool),out.length=n→∀ (o:Nat→Bool),(∀ i,i<n→fnB out i=o i)→back<n→∀ i,i<n→fnB (swL op a b n back k out) i=sw n back g k o i
 | 0,hk,out,ho,o,h,hb,i,hi=>h i hi
 | k+1,hk,out,ho,o,h,hb,i,hi=>by
   rw [swL,sw]
   refine swL_fn g hg k (by omega) _ (by simp [ho]) _ (fun j hj=>?_) hb i hi
   rw [fnB_set _ _ (by omega)]
   unfold upd1
   by_cases e:j=k
   ·rw [if_pos e,if_pos e,hg k _ (by omega),h _ (nx_lt n back hb (by omega))]
   ·rw [if_neg e,if_neg e];exact h j hj
theorem swN_fn (g:Nat→Bool→Bool) (hg:∀ i o,i<n→stepB op (fnB a) (fnB b) i (nx n back i) o=g i (o (nx n back i))) (hb:back<n):∀ (k:Nat) (out:List Bool),out.length=n→∀ (o:Nat→Bool),(∀ i,i<n→fnB out i=o i)→∀ i,i<n→fnB (swN op a b n back k out) i=sws n back g k o i
 | 0,out,ho,o,h,i,hi=>h i hi
 | k+1,out,ho,o,h,i,hi=>by
   rw [swN,sws]
   exact swN_fn g hg hb k _ (by rw [qcs];exact ho) _ (swL_fn op a b n back g hg n (Nat.le_refl _) out ho o h hb) i hi
theorem sw_const (h:Nat→Bool):∀ (k:Nat) (o:Nat→Bool) (i:Nat),sw n back (fun j _=>h j) k o i=if i<k then h i else o i
 | 0,o,i=>by simp [sw]
 | k+1,o,i=>by
   rw [sw,sw_const h k]
   unfold upd1
   by_cases h1:i<k
   ·rw [if_pos h1,if_pos (by omega)]
   ·rw [if_neg h1]
    by_cases h2:i=k
    ·rw [if_pos h2,if_pos (by omega),h2]
    ·rw [if_neg h2,if_neg (by omega)]
theorem swL_id (hop:op=1∨op=2∨op=3):∀ (k:Nat),k≤n→∀ (out:List Bool),out.length=n→swL op a b n back k out=out
 | 0,hk,out,ho=>rfl
 | k+1,hk,out,ho=>by
   have hs:out.set k (stepB op (fnB a) (fnB b) k (nx n back k) (fnB out))=out:=by
    have e:stepB op (fnB a) (fnB b) k (nx n back k) (fnB out)=out.getD k (Ty.dflt ty4):=by
     unfold stepB
     rw [if_neg (by omega),if_neg (by omega),if_neg (by omega),if_neg (by omega),if_neg (by omega),if_neg (by omega),if_neg (by omega),if_neg (by omega),if_neg (by omega)]
     rfl
    rw [e]
    apply List.ext_getElem?
    intro j
    rw [List.getElem?_set]
    by_cases hj:k=j
    ·subst hj
     rw [if_pos rfl,if_pos (by omega),List.getD_eq_getElem?_getD,List.getElem?_eq_getElem (by omega)];rfl
    ·rw [if_neg hj]
   rw [swL,hs]
   exact swL_id hop k (by omega) out ho
include hb hn in
theorem truths_ok (hop:0≤opn op) (hl:lensOk op a b n):∃ out,M54 op a b (n:Nat) (back:Nat)=some out∧out.length=n∧∀ i,i<n→fnB out i=rowOK op (fnB a) (fnB b) n back i:=by
 have hcase:op=1∨op=2∨op=3∨op=4∨op=5∨op=6∨op=7∨op=8∨op=9∨op=10∨op=11∨op=12:=by
  unfold opn at hop
  split at hop
  ·omega
  ·split at hop
   ·omega
   ·split at hop
    ·omega
    ·omega
 show ∃ out,T54 Ops.std op a b (n:Nat) (back:Nat) (trR op a b n back 1000000) some none=some out∧_
 unfold T54
 have h0n:(0:Int)≤(n:Int):=by omega
 have hlim:n*1≤140737488355328:=by omega
 simp only [qan,qay,qas,qac,decide_true,h0n,hlim,cond_true]
 obtain ⟨g,out,e1,e2,e3,e4⟩:=tr_init op a b n back hn n 0 1000000 (by omega) (by omega) (List.replicate n (Ty.dflt Ty.bool)) (by simp) (fun j hj=>by omega)
 have e2':trR op a b n back 1000000 (.l0 0 (List.replicate n (Ty.dflt Ty.bool)))=trR op a b n back g (.l1 0 out):=e2
 have goal:∀ out',trR op a b n back g (.l1 0 out)=some out'→out'.length=n→(∀ i,i<n→fnB out' i=rowOK op (fnB a) (fnB b) n back i)→∃ out,trR op a b n back 1000000 (.l0 0 (List.replicate n (Ty.dflt Ty.bool)))=some out∧out.length=n∧∀ i,i<n→fnB out i=rowOK op (fnB a) (fnB b) n back i:=
  fun out' h1 h2 h3=>⟨out',e2'.trans h1,h2,h3⟩
 have const:(op≠9∧op≠10∧op≠11∧op≠12)→∀ h:Nat→Bool,(∀ i o,i<n→stepB op (fnB a) (fnB b) i (nx n back i) o=h i)→(∀ i,i<n→rowOK op (fnB a) (fnB b) n back i=h i)→∃ out,trR op a b n back 1000000 (.l0 0 (List.replicate n (Ty.dflt Ty.bool)))=some out∧out.length=n∧∀ i,i<n→fnB out i=rowOK op (fnB a) (fnB b) n back i:=fun ho h hs hr=>
  goal _ (tr_once op a b n back hb hn ho hl g (by omega) out e3) (by rw [qcs];exact e3) fun i hi=>by
   rw [swL_fn op a b n back (fun j _=>h j) hs n (Nat.le_refl _) out e3 (fnB out) (fun _ _=>rfl) hb i hi,sw_const,if_pos hi,hr i hi]
 have last:(op=9∨op=10∨op=11∨op=12)→∀ (gr:Nat→Bool→Bool) (v:Bool),ini op=v→(∀ i o,i<n→stepB op (fnB a) (fnB b) i (nx n back i) o=gr i (o (nx n back i)))→(∀ i,i<n→rowOK op (fnB a) (fnB b) n back i=sws n back gr (n+2) (fun _=>v) i)→∃ out,trR op a b n back 1000000 (.l0 0 (List.replicate n (Ty.dflt Ty.bool)))=some out∧out.length=n∧∀ i,i<n→fnB out i=rowOK op (fnB a) (fnB b) n back i:=fun ho gr v hv hs hr=>
  goal _ (tr_last op a b n back hb hn ho hl (n+2) 0 g (by omega) (by omega) out e3) (by rw [swN_len];exact e3) fun i hi=>by
   rw [swN_fn op a b n back gr hs hb (n+2) out e3 (fun _=>v) (fun j hj=>by rw [e4 j hj,hv]) i hi,hr i hi]
 rcases hcase with rfl | rfl | rfl | rfl | rfl | rfl | rfl | rfl | rfl | rfl | rfl | rfl
 ·refine goal _ (tr_once 1 a b n back hb hn (by omega) hl g (by omega) out e3) (by rw [qcs];exact e3) fun i hi=>?_
  rw [swL_id 1 a b n back (.inl rfl) n (Nat.le_refl _) out e3,e4 i hi];rfl
 ·refine goal _ (tr_once 2 a b n back hb hn (by omega) hl g (by omega) out e3) (by rw [qcs];exact e3) fun i hi=>?_
  rw [swL_id 2 a b n back (.inr (.inl rfl)) n (Nat.le_refl _) out e3,e4 i hi];rfl
 ·refine goal _ (tr_once 3 a b n back hb hn (by omega) hl g (by omega) out e3) (by rw [qcs];exact e3) fun i hi=>?_
  rw [swL_id 3 a b n back (.inr (.inr rfl)) n (Nat.le_refl _) out e3,e4 i hi];rfl
 ·exact const (by omega) (fun i=>!fnB a i) (fun _ _ _=>rfl) (fun _ _=>rfl)
 ·exact const (by omega) (fun i=>fnB a i && fnB b i) (fun _ _ _=>rfl) (fun _ _=>rfl)
 ·exact const (by omega) (fun i=>fnB a i || fnB b i) (fun _ _ _=>rfl) (fun _ _=>rfl)
 ·exact const (by omega) (fun i=>!fnB a i || fnB b i) (fun _ _ _=>rfl) (fun _ _=>rfl)
 ·exact const (by omega) (fun i=>fnB a (nx n back i)) (fun _ _ _=>rfl) (fun _ _=>rfl)
 ·exact last (by omega) (ruU (fnB a) (fnB b)) false rfl (fun _ _ _=>rfl) (fun _ _=>rfl)
 ·exact last (by omega) (ruR (fnB a) (fnB b)) true rfl (fun _ _ _=>rfl) (fun _ _=>rfl)
 ·exact last (by omega) (ruF (fnB a)) false rfl (fun _ _ _=>rfl) (fun _ _=>rfl)
 ·exact last (by omega) (ruG (fnB a)) true rfl (fun _ _ _=>rfl) (fun _ _=>rfl)
end
theorem qd3 (n:Int):∃ v,M83 n=some v:=⟨_,rfl⟩
theorem qd4 (b:Bool):∃ v,M84 b=some v:=by cases b<;>exact ⟨_,rfl⟩
theorem two_some (op a b:Int):∃ v,M85 op a b=some v:=by
 show ∃ v,T85 Ops.std M83 M84 op a b some=some v
 unfold T85
 simp only [qan,qaa]
 have hb:∀ n:Int,∃ v,(ob (M83 n) fun y=>some y)=some v:=fun n=>by obtain ⟨v,h⟩:=qd3 n;exact ⟨v,by rw [h,ob_s]⟩
 have ht:∀ n:Bool,∃ v,(ob (M84 n) fun y=>some y)=some v:=fun n=>by obtain ⟨v,h⟩:=qd4 n;exact ⟨v,by rw [h,ob_s]⟩
 have hc:∀ q x y:Bool,∃ v,(cond q (ob (M84 x) fun y=>some y) (ob (M84 y) fun y=>some y))=some v:=fun q x y=>by
  cases q
  ·exact ht y
  ·exact ht x
 repeat' (first | exact hb _ | exact ht _ | exact hc _ _ _ | split)
section
variable {vs:List Vrb} {ps:List Pcs} {ts:List Trn}
noncomputable abbrev evR (vs:List Vrb) (ps:List Pcs) (ts:List Trn) (s1 s2:List Int) (e:List Trm):=R52 M47 M79 M83 M75 M78 M84 M85 vs ps ts s1 s2 e
theorem eval_loop (s1 s2:List Int) (h1:s1.length=ps.length) (h2:s2.length=vs.length) (e:List Trm) (he:e.length≤30) (hk:∀ x∈e,knE vs ps ts x):∀ (t i n:Nat) (st:List Int),i+t=e.length→t<n→st.length≤i→∃ v,evR vs ps ts s1 s2 e n (.l0 i st)=some v
 | t,i,0,st,hi,hn,hs=>by omega
 | 0,i,n+1,st,hi,hn,hs=>by
   show ∃ v,T52 Ops.std _ _ _ _ _ _ _ vs ps ts s1 s2 e _ some _=some v
   unfold T52
   simp only [qah,qan,qak,qaa]
   rw [if_neg (by omega)]
   by_cases h0:((st.length:Nat):Int)=0
   ·rw [if_pos h0];exact ⟨_,rfl⟩
   ·rw [if_neg h0,if_pos (by omega)];exact ⟨_,rfl⟩
 | t+1,i,n+1,st,hi,hn,hs=>by
   have ih:=fun st=>eval_loop s1 s2 h1 h2 e he hk t (i+1) n st (by omega) (by omega)
   obtain ⟨x,hx⟩:∃ x,e.getD i (Ty.dflt ty140)=x:=⟨_,rfl⟩
   have hm:x∈e:=by rw [←hx];exact qbk (by omega) _
   obtain ⟨k2,k3⟩:=hk x hm
   show ∃ v,T52 Ops.std _ _ _ _ _ _ _ vs ps ts s1 s2 e _ some _=some v
   unfold T52
   simp only [qah,qan,qak,qas,qaa,qac,hx,mt,List.length_cons,List.length_nil,show IntKind.wrap IntKind.i64 ((i:Int)+1)=((i+1:Nat):Int) from qag (by omega)]
   rw [if_pos (by omega),if_pos (by omega)]
   by_cases o1:x.1=1
   ·rw [if_pos o1,if_pos (by omega)];exact ih _ (by simp;omega)
   rw [if_neg o1]
   by_cases o2:x.1=2
   ·obtain ⟨k,hk1,hk2⟩:=k2 o2
    rw [if_pos o2,hk2,ob_s,if_pos (by omega)]
    obtain ⟨y,hy⟩:=qd3 (s2.getD (Int.toNat (k:Int)) (Ty.dflt ty3))
    rw [hy,ob_s,if_pos (by omega)];exact ih _ (by simp;omega)
   rw [if_neg o2]
   by_cases o3:x.1=3
   ·obtain ⟨q,r,q1,q2,q3⟩:=k3 o3
    rw [if_pos o3,q2,ob_s,if_pos (by omega),q3,ob_s]
    obtain ⟨y,hy⟩:=qd4 (decide (s1.getD (Int.toNat (q:Int)) (Ty.dflt ty3)=r))
    rw [hy,ob_s,if_pos (by omega)];exact ih _ (by simp;omega)
   rw [if_neg o3]
   by_cases o4:x.1=4
   ·rw [if_pos o4]
    by_cases hl:((st.length:Nat):Int)<1
    ·rw [if_pos hl];exact ⟨_,rfl⟩
    ·have hw1:IntKind.wrap IntKind.i64 ((st.length:Int)-1)=((st.length-1:Nat):Int):=by rw [wrap64 (by omega) (by omega)];omega
     simp only [hw1,qac]
     obtain ⟨y,hy⟩:=qd4 (decide (st.getD (st.length-1) (Ty.dflt ty3)=0))
     rw [if_neg hl,if_pos trivial,if_pos (by omega),if_pos (by omega),hy,ob_s,if_pos (by omega),if_pos (by simp;omega)]
     exact ih _ (by simp;omega)
   rw [if_neg o4]
   by_cases o5:x.1=5
   ·rw [if_pos o5]
    by_cases hl:((st.length:Nat):Int)<1
    ·rw [if_pos hl];exact ⟨_,rfl⟩
    ·have hw1:IntKind.wrap IntKind.i64 ((st.length:Int)-1)=((st.length-1:Nat):Int):=by rw [wrap64 (by omega) (by omega)];omega
     simp only [hw1,qac]
     obtain ⟨y,hy⟩:=qd3 (IntKind.wrap IntKind.i64 (0-st.getD (st.length-1) (Ty.dflt ty3)))
     rw [if_neg hl,if_pos trivial,if_pos (by omega),if_pos (by omega),hy,ob_s,if_pos (by omega),if_pos (by simp;omega)]
     exact ih _ (by simp;omega)
   rw [if_neg o5]
   by_cases hl:((st.length:Nat):Int)<2
   ·rw [if_pos hl];exact ⟨_,rfl⟩
   ·have hw1:IntKind.wrap IntKind.i64 ((st.length:Int)-1)=((st.length-1:Nat):Int):=by rw [wrap64 (by omega) (by omega)];omega
    have hw2:IntKind.wrap IntKind.i64 ((st.length:Int)-2)=((st.length-2:Nat):Int):=by rw [wrap64 (by omega) (by omega)];omega
    simp only [hw1,hw2,qac]
    obtain ⟨y,hy⟩:=two_some x.1 (st.getD (st.length-2) (Ty.dflt ty3)) (st.getD (st.length-1) (Ty.dflt ty3))
    rw [if_neg hl,if_pos trivial,if_pos (by omega),if_pos (by omega),if_pos (by omega),hy,ob_s,if_pos (by omega),if_pos (by simp;omega)]
    exact ih _ (by simp;omega)
theorem eval_ok (hg:smallG vs ps) (s1 s2:List Int) (e:List Trm) (he:shortE e):∃ v,M52 vs ps ts s1 s2 e=some v:=by
 show ∃ v,T52 Ops.std M47 M79 M83 M75 M78 M84 M85 vs ps ts s1 s2 e (evR vs ps ts s1 s2 e 1000000) some none=some v
 unfold T52
 obtain ⟨b,b1,b2⟩:=qep ts hg e he
 rw [b1,ob_s]
 cases hb:b with
 | false=>exact ⟨_,rfl⟩
 | true=>
 simp only [Bool.not_true,cond_false,qan,qa4,qaa]
 by_cases c1:((s1.length:Nat):Int)=((ps.length:Nat):Int)
 ·rw [if_neg (fun h=>h c1)]
  by_cases c2:((s2.length:Nat):Int)=((vs.length:Nat):Int)
  ·rw [if_neg (fun h=>h c2)]
   exact eval_loop s1 s2 (by omega) (by omega) e he.1 (b2 hb).2 e.length 0 1000000 [] (by omega) (by have:=he.1;omega) (by simp)
  ·rw [if_pos c2];exact ⟨_,rfl⟩
 ·rw [if_pos c1];exact ⟨_,rfl⟩
abbrev Stt:=List Int×List Int
structure goodSt (vs:List Vrb) (ps:List Pcs) (s:Stt):Prop where
 l1:s.1.length=ps.length
 l2:s.2.length=vs.length
 p:∀ i,i<ps.length→0≤s.1.getD i (Ty.dflt ty3)∧s.1.getD i (Ty.dflt ty3)<((ps.getD i (Ty.dflt ty85)).2.length:Int)
 v:∀ i,i<vs.length→(vs.getD i (Ty.dflt ty82)).2.1≤s.2.getD i (Ty.dflt ty3)∧s.2.getD i (Ty.dflt ty3)≤(vs.getD i (Ty.dflt ty82)).2.2.1
theorem getD_app {α:Type} {l:List α} {x d:α} {j:Nat}:(l++[x]).getD j d=if j<l.length then l.getD j d else if j=l.length then x else d:=by
 simp only [List.getD_eq_getElem?_getD]
 by_cases h:j<l.length
 ·rw [if_pos h,List.getElem?_append_left h]
 ·rw [if_neg h,List.getElem?_append_right (by omega)]
  by_cases h2:j=l.length
  ·rw [if_pos h2,h2];simp
  ·rw [if_neg h2,List.getElem?_eq_none (by simp;omega)];rfl
noncomputable abbrev stR (vs:List Vrb) (ps:List Pcs) (ts:List Trn) (x:Int):=R49 M25 vs ps ts x
theorem st_l1 (hM:goodM vs ps) (x:Int) (L:List Int) (h1:L.length=ps.length) (hp:∀ i,i<ps.length→0≤L.getD i (Ty.dflt ty3)∧L.getD i (Ty.dflt ty3)<((ps.getD i (Ty.dflt ty85)).2.length:Int)) :
  ∀ (t i n:Nat) (V:List Int),i+t=vs.length→t<n→V.length=i→(∀ j,j<i→(vs.getD j (Ty.dflt ty82)).2.1≤V.getD j (Ty.dflt ty3)∧V.getD j (Ty.dflt ty3)≤(vs.getD j (Ty.dflt ty82)).2.2.1)→∃ s,stR vs ps ts x n (.l1 i L V)=some s∧goodSt vs ps s
 | t,i,0,V,hi,hn,hv,hk=>by omega
 | 0,i,n+1,V,hi,hn,hv,hk=>by
   show ∃ s,T49 Ops.std _ vs ps ts x _ some _=some s∧_
   unfold T49
   simp only [qah,qaa]
   rw [if_neg (by omega)]
   exact ⟨_,rfl,h1,by show V.length=_;omega,hp,fun j hj=>hk j (by omega)⟩
 | t+1,i,n+1,V,hi,hn,hv,hk=>by
   have hvl:=hM.vl
   have ih:=fun V=>st_l1 hM x L h1 hp t (i+1) n V (by omega) (by omega)
   obtain ⟨y,hy⟩:∃ y,vs.getD i (Ty.dflt ty82)=y:=⟨_,rfl⟩
   have ho:okVar y:=by rw [←hy];exact hM.v _ (qbk (by omega) _)
   obtain ⟨o1,o2,o3,o4⟩:=ho
   show ∃ s,T49 Ops.std _ vs ps ts x _ some _=some s∧_
   unfold T49
   have hw:IntKind.wrap IntKind.i64 (3+IntKind.wrap IntKind.i64 (4*(i:Int)))=((4*i+3:Nat):Int):=by rw [wrap64 (n:=4*(i:Int)) (by omega) (by omega),wrap64 (by omega) (by omega)];omega
   have hN:IntKind.wrap IntKind.i64 (IntKind.wrap IntKind.i64 (y.2.2.1-y.2.1)+1)=(((y.2.2.1-y.2.1+1).toNat:Nat):Int):=by rw [wrap64 (n:=y.2.2.1-y.2.1) (by omega) (by omega),wrap64 (by omega) (by omega)];omega
   simp only [qah,qan,qak,qas,qaa,qac,hy,hw,hN,mt,List.length_cons,List.length_nil,show IntKind.wrap IntKind.i64 ((i:Int)+1)=((i+1:Nat):Int) from qag (by omega)]
   obtain ⟨k,k1,k2⟩:=pickN (IntKind.wrap IntKind.i64 (Int.tdiv x ((4*i+3:Nat):Int))) (y.2.2.1-y.2.1+1).toNat (by omega) (by omega)
   rw [if_pos (by omega),if_pos (by omega),if_neg (by omega),if_pos (by omega),if_pos (by omega),k2,ob_s,if_pos (by omega),wrap64 (n:=y.2.1+(k:Int)) (by omega) (by omega)]
   refine ih _ (by simp;omega) fun j hj=>?_
   rw [getD_app]
   by_cases h:j<V.length
   ·rw [if_pos h];exact hk j (by omega)
   ·rw [if_neg h,if_pos (by omega),show j=i by omega,hy];exact ⟨by omega,by omega⟩
theorem st_l0 (hM:goodM vs ps) (x:Int):∀ (t i n:Nat) (L:List Int),i+t=ps.length→t+10<n→L.length=i→(∀ j,j<i→0≤L.getD j (Ty.dflt ty3)∧L.getD j (Ty.dflt ty3)<((ps.getD j (Ty.dflt ty85)).2.length:Int))→∃ s,stR vs ps ts x n (.l0 i L)=some s∧goodSt vs ps s
 | t,i,0,L,hi,hn,hv,hk=>by omega
 | 0,i,n+1,L,hi,hn,hv,hk=>by
   have hvl:=hM.vl
   show ∃ s,T49 Ops.std _ vs ps ts x _ some _=some s∧_
   unfold T49
   simp only [qah,qaa]
   rw [if_neg (by omega)]
   exact st_l1 hM x L (by omega) (fun j hj=>hk j (by omega)) vs.length 0 n [] (by omega) (by omega) rfl (fun j hj=>by omega)
 | t+1,i,n+1,L,hi,hn,hv,hk=>by
   have hpl:=hM.pl
   have ih:=fun L=>st_l0 hM x t (i+1) n L (by omega) (by omega)
   obtain ⟨y,hy⟩:∃ y,ps.getD i (Ty.dflt ty85)=y:=⟨_,rfl⟩
   have ho:1≤y.2.length∧y.2.length≤6:=by rw [←hy];exact hM.p _ (qbk (by omega) _)
   show ∃ s,T49 Ops.std _ vs ps ts x _ some _=some s∧_
   unfold T49
   have hw:IntKind.wrap IntKind.i64 (1+(i:Int))=((i+1:Nat):Int):=by rw [wrap64 (by omega) (by omega)];omega
   simp only [qah,qan,qak,qas,qaa,qac,hy,hw,mt,List.length_cons,List.length_nil,show IntKind.wrap IntKind.i64 ((i:Int)+1)=((i+1:Nat):Int) from qag (by omega)]
   obtain ⟨k,k1,k2⟩:=pickN (IntKind.wrap IntKind.i64 (Int.tdiv x ((i+1:Nat):Int))) y.2.length (by omega) (by omega)
   rw [if_pos (by omega),if_neg (by omega),if_pos (by omega),k2,ob_s,if_pos (by omega)]
   refine ih _ (by simp;omega) fun j hj=>?_
   rw [getD_app]
   by_cases h:j<L.length
   ·rw [if_pos h];exact hk j (by omega)
   ·rw [if_neg h,if_pos (by omega),show j=i by omega,hy];exact ⟨by omega,by omega⟩
theorem State_ok (hM:goodM vs ps) (x:Int):∃ s,M49 vs ps ts x=some s∧goodSt vs ps s:=by
 have hpl:=hM.pl
 show ∃ s,T49 Ops.std M25 vs ps ts x (stR vs ps ts x 1000000) some none=some s∧_
 unfold T49
 exact st_l0 hM x ps.length 0 1000000 [] (by omega) (by omega) rfl (fun j hj=>by omega)
end
abbrev Stp:=Stt×List Int
section
variable {vs:List Vrb} {ps:List Pcs} {ts:List Trn}
noncomputable abbrev wdR (vs:List Vrb) (ps:List Pcs) (ts:List Trn) (a b:List Int):=R20 M49 vs ps ts a b
theorem mem_app1 {P:Stp→Prop} {l:List Stp} {x:Stp} (h:∀ y∈l,P y) (hx:P x):∀ y∈l++[x],P y:=fun y hy=>by
 rcases List.mem_append.mp hy with h' | h'
 ·exact h y h'
 ·rw [List.mem_singleton.mp h'];exact hx
def wordOk (vs:List Vrb) (ps:List Pcs) (w:List Stp×List Stp):Prop:=w.1.length≤6∧1≤w.2.length∧w.2.length≤6∧(∀ x∈w.1,goodSt vs ps x.1)∧∀ x∈w.2,goodSt vs ps x.1
theorem wd_end (hM:goodM vs ps) (st cy:List Stp) (h1:st.length≤6) (h2:cy.length≤6) (k1:∀ x∈st,goodSt vs ps x.1) (k2:∀ x∈cy,goodSt vs ps x.1) (k:(List Stp×List Stp)→Option (List Stp×List Stp)) (hk:k=some) :
  ∃ w,(if ((cy.length:Nat):Int)=0 then ob (M49 vs ps ts 0) (fun y=>k (st,[((y.1,y.2),[])])) else k (st,cy))=some w∧wordOk vs ps w:=by
 subst hk
 by_cases h:((cy.length:Nat):Int)=0
 ·obtain ⟨s,s1,s2⟩:=State_ok (ts:=ts) hM 0
  rw [if_pos h,s1,ob_s]
  exact ⟨_,rfl,h1,by simp,by simp,k1,fun x hx=>by rw [List.mem_singleton.mp hx];exact s2⟩
 ·rw [if_neg h]
  exact ⟨_,rfl,h1,by show 1≤cy.length;omega,h2,k1,k2⟩
theorem wd_l1 (hM:goodM vs ps) (a b:List Int) (st:List Stp) (h1:st.length≤6) (k1:∀ x∈st,goodSt vs ps x.1):∀ (t i n:Nat) (cy:List Stp),i+t=6→t<n→cy.length=i→(∀ x∈cy,goodSt vs ps x.1)→∃ w,wdR vs ps ts a b n (.l1 i st cy)=some w∧wordOk vs ps w
 | t,i,0,cy,hi,hn,hl,hk=>by omega
 | t,i,n+1,cy,hi,hn,hl,hk=>by
   have he:=wd_end (ts:=ts) hM st cy h1 (by omega) k1 hk some rfl
   show ∃ w,T20 Ops.std _ vs ps ts a b _ some _=some w∧_
   unfold T20
   simp only [qah,qan,qak,qas,qaa,qac,mt,List.length_cons,List.length_nil]
   by_cases c1:(i:Int)<((b.length:Nat):Int)
   ·rw [if_pos c1]
    by_cases c2:(i:Int)<6
    ·obtain ⟨t,rfl⟩:∃ t',t=t'+1:=⟨t-1,by omega⟩
     obtain ⟨s,s1,s2⟩:=State_ok (ts:=ts) hM (b.getD i (Ty.dflt ty3))
     rw [if_pos c2,if_pos (by omega),s1,ob_s,if_pos (by omega),show IntKind.wrap IntKind.i64 ((i:Int)+1)=((i+1:Nat):Int) from qag (by omega)]
     exact wd_l1 hM a b st h1 k1 t (i+1) n _ (by omega) (by omega) (by simp [hl]) (mem_app1 hk s2)
    ·rw [if_neg c2];exact he
   ·rw [if_neg c1];exact he
theorem wd_l0 (hM:goodM vs ps) (a b:List Int):∀ (t i n:Nat) (st:List Stp),i+t=6→t+10<n→st.length=i→(∀ x∈st,goodSt vs ps x.1)→∃ w,wdR vs ps ts a b n (.l0 i st)=some w∧wordOk vs ps w
 | t,i,0,cy,hi,hn,hl,hk=>by omega
 | t,i,n+1,st,hi,hn,hl,hk=>by
   have he:=wd_l1 (ts:=ts) hM a b st (by omega) hk 6 0 n [] (by omega) (by omega) rfl (fun x hx=>by cases hx)
   show ∃ w,T20 Ops.std _ vs ps ts a b _ some _=some w∧_
   unfold T20
   simp only [qah,qan,qak,qas,qaa,qac,mt,List.length_cons,List.length_nil]
   by_cases c1:(i:Int)<((a.length:Nat):Int)
   ·rw [if_pos c1]
    by_cases c2:(i:Int)<6
    ·obtain ⟨t,rfl⟩:∃ t',t=t'+1:=⟨t-1,by omega⟩
     obtain ⟨s,s1,s2⟩:=State_ok (ts:=ts) hM (a.getD i (Ty.dflt ty3))
     rw [if_pos c2,if_pos (by omega),s1,ob_s,if_pos (by omega),show IntKind.wrap IntKind.i64 ((i:Int)+1)=((i+1:Nat):Int) from qag (by omega)]
     exact wd_l0 hM a b t (i+1) n _ (by omega) (by omega) (by simp [hl]) (mem_app1 hk s2)
    ·rw [if_neg c2];exact he
   ·rw [if_neg c1];exact he
theorem Word_ok (hM:goodM vs ps) (a b:List Int):∃ w,M20 vs ps ts a b=some w∧wordOk vs ps w:=by
 show ∃ w,T20 Ops.std M49 vs ps ts a b (wdR vs ps ts a b 1000000) some none=some w∧_
 unfold T20
 exact wd_l0 hM a b 6 0 1000000 [] (by omega) (by omega) rfl (fun x hx=>by cases hx)
noncomputable abbrev ftR (vs:List Vrb) (ps:List Pcs) (ts:List Trn) (s1 s2:List Int):=R99 vs ps ts s1 s2
theorem ft_l1 (hv:vs.length≤100000) {s:Stt} (hs:goodSt vs ps s):∀ (t i n:Nat),i+t=vs.length→t<n→ftR vs ps ts s.1 s.2 n (.l1 i)=some true
 | t,i,0,hi,hn=>by omega
 | 0,i,n+1,hi,hn=>by
   have h2:=hs.l2
   show T99 Ops.std vs ps ts s.1 s.2 _ some _=_
   unfold T99
   simp only [qah,qaa]
   rw [if_neg (by omega)]
 | t+1,i,n+1,hi,hn=>by
   have h2:=hs.l2
   obtain ⟨v1,v2⟩:=hs.v i (by omega)
   show T99 Ops.std vs ps ts s.1 s.2 _ some _=_
   unfold T99
   simp only [qah,qay,qak,qaa,qac]
   rw [if_pos (by omega),if_pos (by omega),if_pos (by omega),if_neg (by omega),if_pos (by omega),if_pos (by omega),if_neg (by omega),show IntKind.wrap IntKind.i64 ((i:Int)+1)=((i+1:Nat):Int) from qag (by omega)]
   exact ft_l1 hv hs t (i+1) n (by omega) (by omega)
theorem ft_l0 (hv:vs.length≤100000) (hp:ps.length≤100000) {s:Stt} (hs:goodSt vs ps s):∀ (t i n:Nat),i+t=ps.length→t+100010<n→ftR vs ps ts s.1 s.2 n (.l0 i)=some true
 | t,i,0,hi,hn=>by omega
 | 0,i,n+1,hi,hn=>by
   have h1:=hs.l1
   show T99 Ops.std vs ps ts s.1 s.2 _ some _=_
   unfold T99
   simp only [qah,qaa]
   rw [if_neg (by omega)]
   exact ft_l1 hv hs vs.length 0 n (by omega) (by omega)
 | t+1,i,n+1,hi,hn=>by
   have h1:=hs.l1
   obtain ⟨v1,v2⟩:=hs.p i (by omega)
   show T99 Ops.std vs ps ts s.1 s.2 _ some _=_
   unfold T99
   simp only [qah,qay,qak,qaa,qac]
   rw [if_pos (by omega),if_pos (by omega),if_neg (by omega),if_pos (by omega),if_pos (by omega),if_neg (by omega),show IntKind.wrap IntKind.i64 ((i:Int)+1)=((i+1:Nat):Int) from qag (by omega)]
   exact ft_l0 hv hp hs t (i+1) n (by omega) (by omega)
theorem fits_ok (hM:goodM vs ps) {s:Stt} (hs:goodSt vs ps s):M99 vs ps ts s.1 s.2=some true:=by
 have hpl:=hM.pl
 have hvl:=hM.vl
 have h1:=hs.l1
 have h2:=hs.l2
 show T99 Ops.std vs ps ts s.1 s.2 (ftR vs ps ts s.1 s.2 1000000) some none=_
 unfold T99
 simp only [qan,qa4,qaa]
 rw [if_neg (fun h=>h (by omega)),if_neg (fun h=>h (by omega))]
 exact ft_l0 (by omega) (by omega) hs ps.length 0 1000000 (by omega) (by omega)
theorem RightState_ok (hR:M18 vs ps ts=some true) (hM:goodM vs ps) {s:Stt} (hs:goodSt vs ps s):M82 vs ps ts s.1 s.2=some true:=by
 show T82 Ops.std M18 M99 vs ps ts s.1 s.2 some=_
 unfold T82
 rw [hR,ob_s]
 simp only [Bool.not_true,cond_false]
 rw [fits_ok hM hs,ob_s]
theorem at_ok (st cy:List Stp) (i:Nat) (hi:i<st.length+cy.length) (h1:st.length≤1000000) (h2:cy.length≤1000000):M53 st cy (i:Nat)=some (((st++cy).getD i (Ty.dflt ty100)).1.1,((st++cy).getD i (Ty.dflt ty100)).1.2,((st++cy).getD i (Ty.dflt ty100)).2):=by
 show T53 Ops.std st cy (i:Nat) some=_
 unfold T53
 simp only [qah,qak,qaa,qac]
 by_cases h:i<st.length
 ·rw [if_pos (by omega),if_pos (by omega)]
  simp only [List.getD_eq_getElem?_getD,List.getElem?_append_left h]
 ·have hw:IntKind.wrap IntKind.i64 ((i:Int)-(st.length:Int))=((i-st.length:Nat):Int):=by
   rw [wrap64 (by omega) (by omega)];omega
  rw [if_neg (by omega),hw,if_pos (by omega)]
  simp only [qac,List.getD_eq_getElem?_getD,List.getElem?_append_right (Nat.le_of_not_lt h)]
end
section
variable {n back:Nat} (hb:back<n)
def eqB (n:Nat) (o p:Nat→Bool):Prop:=∀ i,i<n→o i=p i
include hb in
theorem lf_congr {g g':Nat→Bool→Bool} (hg:mono g) (hg':mono g') (h:∀ i x,i<n→g i x=g' i x):eqB n (lf n back g) (lf n back g'):=by
 refine leB_eq (qeo hg hb _ fun i hi e=>?_) (qeo hg' hb _ fun i hi e=>?_)
 ·rw [lf_fix hg' hb i hi,←h _ _ hi];exact e
 ·rw [lf_fix hg hb i hi,h _ _ hi];exact e
include hb in
theorem gf_congr {g g':Nat→Bool→Bool} (hg:mono g) (hg':mono g') (h:∀ i x,i<n→g i x=g' i x):eqB n (gf n back g) (gf n back g'):=by
 refine leB_eq (qfa hg' hb _ fun i hi e=>?_) (qfa hg hb _ fun i hi e=>?_)
 ·rw [gf_fix hg hb i hi] at e;rw [←h _ _ hi];exact e
 ·rw [gf_fix hg' hb i hi] at e;rw [h _ _ hi];exact e
theorem ruF_mono (a:Nat→Bool):mono (ruF a):=fun i h=>by unfold ruF at *;simp at h;simp [h]
theorem ruG_mono (a:Nat→Bool):mono (ruG a):=fun i h=>by unfold ruG at *;simp at h
include hb in
theorem sem2_congr (k:Int) {a a' b b':Nat→Bool} (ha:eqB n a a') (hb':eqB n b b'):eqB n (sem2 n back k a b) (sem2 n back k a' b'):=by
 unfold sem2
 split
 ·intro i hi;simp only;rw [ha i hi,hb' i hi]
 ·split
  ·intro i hi;simp only;rw [ha i hi,hb' i hi]
  ·split
   ·intro i hi;simp only;rw [ha i hi,hb' i hi]
   ·split
    ·exact lf_congr hb (qdk _ _) (qdk _ _) fun i x hi=>by unfold ruU;rw [ha i hi,hb' i hi]
    ·exact gf_congr hb (ruR_mono _ _) (ruR_mono _ _) fun i x hi=>by unfold ruR;rw [ha i hi,hb' i hi]
include hb in
theorem sem1_congr (k:Int) {a a':Nat→Bool} (ha:eqB n a a'):eqB n (sem1 n back k a) (sem1 n back k a'):=by
 unfold sem1
 split
 ·intro i hi;simp only;rw [ha i hi]
 ·split
  ·intro i hi;exact ha _ (nx_lt n back hb hi)
  ·split
   ·exact lf_congr hb (ruF_mono _) (ruF_mono _) fun i x hi=>by unfold ruF;rw [ha i hi]
   ·exact gf_congr hb (ruG_mono _) (ruG_mono _) fun i x hi=>by unfold ruG;rw [ha i hi]
theorem eqB.tr {o p q:Nat→Bool} (h1:eqB n o p) (h2:eqB n p q):eqB n o q:=fun i hi=>(h1 i hi).trans (h2 i hi)
variable (V:List Trm→Nat→Bool)
end
def rowL (n:Nat) (o:Nat→Bool):List Bool:=(List.range n).map o
theorem qcx (n:Nat) (o:Nat→Bool):(rowL n o).length=n:=by simp [rowL]
theorem qfe (n:Nat) (o:Nat→Bool) (i:Nat) (hi:i<n):fnB (rowL n o) i=o i:=by
 unfold fnB rowL
 rw [List.getD_eq_getElem?_getD,List.getElem?_map,List.getElem?_range hi];rfl
theorem rowL_eq {n:Nat} {o:Nat→Bool} {l:List Bool} (hl:l.length=n) (h:∀ i,i<n→fnB l i=o i):l=rowL n o:=by
 apply List.ext_getElem?
 intro i
 by_cases hi:i<n
 ·have h1:=h i hi
  have h2:=qfe n o i hi
  unfold fnB at h1 h2
  have hr:i<(rowL n o).length:=by rw [qcx];exact hi
  rw [List.getD_eq_getElem?_getD,List.getElem?_eq_getElem (by omega)] at h1
  rw [List.getD_eq_getElem?_getD,List.getElem?_eq_getElem hr] at h2
  rw [List.getElem?_eq_getElem (by omega),List.getElem?_eq_getElem hr]
  simp only [Option.getD_some] at h1 h2
  rw [h1,h2]
 ·rw [List.getElem?_eq_none (by omega),List.getElem?_eq_none (by rw [qcx];omega)]
theorem qd5 {op:Int} {a b:List Bool} {n back:Nat} (hb:back<n) (hn:n≤100) (hop:0≤opn op) (hl:lensOk op a b n) {o:Nat→Bool} (h:∀ i,i<n→rowOK op (fnB a) (fnB b) n back i=o i):M54 op a b (n:Nat) (back:Nat)=some (rowL n o):=by
 obtain ⟨out,h1,h2,h3⟩:=truths_ok op a b n back hb hn hop hl
 rw [h1,rowL_eq h2 fun i hi=>(h3 i hi).trans (h i hi)]
theorem post_back {A:Type} (val:Fm Trm→A) (d:A) {E:List Trm→Bool} {f:List Prt} {K:List (List Int)} (Ok:Fm Trm→Prop) (hun':∀ p a,Ok (.un p a)→Ok a) (hbi':∀ p a c,Ok (.bi p a c)→Ok a∧Ok c) (P:Nat→List A→Prop)
  (hnul:∀ i p done,(Fm.nul p:Fm Trm).wf E→Ok (.nul p)→i<f.length→i<K.length→done.length=i→f.getD i (Ty.dflt ty93)=p→K.getD i (Ty.dflt ty22)=[]→P (i+1) (done++[val (.nul p)])→P i done)
  (hun:∀ i p a (j:Nat) done,(Fm.un p a).wf E→Ok (.un p a)→i<f.length→i<K.length→done.length=i→f.getD i (Ty.dflt ty93)=p→K.getD i (Ty.dflt ty22)=[(j:Int)]→j<i→done.getD j d=val a→P (i+1) (done++[val (.un p a)])→P i done)
  (hbi:∀ i p a c (j k:Nat) done,(Fm.bi p a c).wf E→Ok (.bi p a c)→i<f.length→i<K.length→done.length=i→f.getD i (Ty.dflt ty93)=p→K.getD i (Ty.dflt ty22)=[(j:Int),(k:Int)]→j<i→k<i→done.getD j d=val a→done.getD k d=val c→P (i+1) (done++[val (.bi p a c)])→P i done) :
  ∀ (t:Fm Trm),t.wf E→Ok t→∀ (b:Nat),At f K t b→∀ (done:List A),done.length=b→P (b+t.size) (done++t.post val)→P b done:=by
 intro t
 induction t with
 | nul p=>
   intro ht hok b hat done hd hP
   have hr:=hat.root (Ty.dflt ty93)
   have hk:=hat.last (Ty.dflt ty22)
   have hlen:=hat.len
   simp only [Fm.size,Fm.root,Fm.last,Nat.add_sub_cancel,Fm.post] at hr hk hlen hP ⊢
   exact hnul b p done ht hok (by omega) (by omega) hd hr hk hP
 | un p a ih=>
   intro ht hok b hat done hd hP
   have hr:=hat.root (Ty.dflt ty93)
   have hk:=hat.last (Ty.dflt ty22)
   have hlen:=hat.len
   have hsa:=a.size_pos
   have hi:b+(Fm.un p a).size-1=b+a.size:=by simp only [Fm.size];omega
   rw [hi] at hr hk
   simp only [Fm.size,Fm.root,Fm.last,Fm.post] at hr hk hlen hP ⊢
   have hg:=qdj val d a done []
   rw [List.append_nil,hd] at hg
   refine ih ht.2.2 (hun' p a hok) b hat.un done hd ?_
   refine hun (b+a.size) p a (b+a.size-1) (done++a.post val) ht hok (by omega) (by omega) (by simp [qbm,hd]) hr hk (by omega) hg ?_
   rw [List.append_assoc,show b+a.size+1=b+(a.size+1) by omega]
   exact hP
 | bi p a c iha ihc=>
   intro ht hok b hat done hd hP
   have hr:=hat.root (Ty.dflt ty93)
   have hk:=hat.last (Ty.dflt ty22)
   have hlen:=hat.len
   have hsa:=a.size_pos
   have hsc:=c.size_pos
   have hi:b+(Fm.bi p a c).size-1=b+a.size+c.size:=by simp only [Fm.size];omega
   rw [hi] at hr hk
   simp only [Fm.size,Fm.root,Fm.last,Fm.post] at hr hk hlen hP ⊢
   obtain ⟨oka,okc⟩:=hbi' p a c hok
   have hg:=qdj val d a done (c.post val)
   rw [hd] at hg
   have hg2:=qdj val d c (done++a.post val) []
   rw [List.append_nil,show (done++a.post val).length=b+a.size by simp [qbm,hd]] at hg2
   refine iha ht.2.2.1 oka b hat.bi1 done hd ?_
   refine ihc ht.2.2.2 okc (b+a.size) hat.bi2 (done++a.post val) (by simp [qbm,hd]) ?_
   refine hbi (b+a.size+c.size) p a c (b+a.size-1) (b+a.size+c.size-1) (done++a.post val++c.post val) ht hok (by omega) (by omega) (by simp [qbm,hd];omega) hr hk (by omega) (by omega) hg hg2 ?_
   rw [show done++a.post val++c.post val++[val (Fm.bi p a c)]=done++(a.post val++c.post val++[val (Fm.bi p a c)]) by simp,show b+a.size+c.size+1=b+(a.size+c.size+1) by omega]
   exact hP
section
variable (vs:List Vrb) (ps:List Pcs) (ts:List Trn)
noncomputable def knB (e:List Trm):Bool:=(M47 vs ps ts e).getD false
def atmOk (f:List Prt):Prop:=∀ p∈f,p.1=3→shortE p.2
noncomputable def knA (f:List Prt):Bool:=f.all fun p=>if p.1=3 then knB vs ps ts p.2 else true
noncomputable abbrev k3R (f:List Prt):=R19 M47 M48 vs ps ts f
variable {vs ps}
theorem qeg (hg:smallG vs ps) (f:List Prt) (hf:f.length≤60) (ha:atmOk f) (hr:M48 f=some true):∀ (t i n:Nat),i+t=f.length→t<n→k3R vs ps ts f n (.l0 i)=some (knA vs ps ts (f.drop i))
 | t,i,0,hi,hn=>by omega
 | 0,i,n+1,hi,hn=>by
   show T19 Ops.std _ _ vs ps ts f _ some _=_
   unfold T19
   simp only [qah,qaa]
   rw [if_neg (by omega),List.drop_eq_nil_of_le (by omega),hr]
   rfl
 | t+1,i,n+1,hi,hn=>by
   have hlt:i<f.length:=by omega
   have ih:=qeg hg f hf ha hr t (i+1) n (by omega) (by omega)
   have hm:f.getD i (Ty.dflt ty93)∈f:=qbk hlt _
   show T19 Ops.std _ _ vs ps ts f _ some _=_
   unfold T19
   rw [qbp (Ty.dflt ty93) hlt]
   simp only [qah,qan,qak,qaa,qac,show IntKind.wrap IntKind.i64 ((i:Int)+1)=((i+1:Nat):Int) from qag (by omega)]
   generalize f.getD i (Ty.dflt ty93)=p at hm ⊢
   unfold knA at ih ⊢
   rw [List.all_cons,if_pos (by omega),if_pos (by omega)]
   by_cases h3:p.1=3
   ·obtain ⟨b,b1,b2⟩:=qep ts hg p.2 (ha p hm h3)
    have hb:knB vs ps ts p.2=b:=by unfold knB;rw [b1];rfl
    rw [if_pos h3,if_pos h3,if_pos (by omega),b1,ob_s,hb]
    cases b with
    | false=>rfl
    | true=>simp only [Bool.not_true,cond_false,Bool.true_and];exact ih
   ·rw [if_neg h3,if_neg h3,Bool.true_and]
    exact ih
theorem qf2 (hg:smallG vs ps) (f:List Prt) (hf:f.length≤60) (ha:atmOk f) (hr:M48 f=some true):M19 vs ps ts f=some (knA vs ps ts f):=by
 show T19 Ops.std M47 M48 vs ps ts f (k3R vs ps ts f 1000000) some none=_
 unfold T19
 exact qeg ts hg f hf ha hr f.length 0 1000000 (by omega) (by omega)
theorem hz1 (k:Int):([k]:List Int).getD (Int.toNat 0) (Ty.dflt (Ty.int IntKind.i64))=k:=rfl
theorem hz20 (k l:Int):([k,l]:List Int).getD (Int.toNat 0) (Ty.dflt (Ty.int IntKind.i64))=k:=rfl
theorem hz21 (k l:Int):([k,l]:List Int).getD (Int.toNat 1) (Ty.dflt (Ty.int IntKind.i64))=l:=rfl
variable (vs ps) in
noncomputable def valE (w:List Stp) (e:List Trm) (i:Nat):Bool:=!decide ((M52 vs ps ts (w.getD i (Ty.dflt ty100)).1.1 (w.getD i (Ty.dflt ty100)).1.2 e).getD 0=0)
variable (vs ps) in
noncomputable abbrev alR (f:List Prt) (st cy:List Stp):=R21 M19 M50 M51 M53 M52 M54 vs ps ts f st cy
section
variable (hg:smallG vs ps) (f:List Prt) (hf:f.length≤60) (st cy:List Stp) (hst:st.length≤6) (hcy:cy.length≤6) (n:Nat) (hn:n=st.length+cy.length)
include hg hf hst hcy hn in
theorem al_l1 (i:Nat) (hi:i<f.length) (K:List (List Int)) (rows:List (List Bool)) (hrl:rows.length≤60) (p:Prt) (hp:f.getD i (Ty.dflt ty93)=p) (hsh:shortE p.2) (D:Nat) (X:Option (List (List Bool))) (hX:∀ m,D<m→alR vs ps ts f st cy m (.l0 (n:Nat) ((i+1:Nat):Int) K (rows++[rowL n (valE vs ps ts (st++cy) p.2)]))=X) :
  ∀ (t c m:Nat),c+t=n→D+t+1<m→∀ (row:List Bool),row.length=n→(∀ j,j<c→fnB row j=valE vs ps ts (st++cy) p.2 j)→alR vs ps ts f st cy m (.l1 (n:Nat) (i:Nat) (c:Nat) K rows row)=X
 | t,c,0,hc,hm,row,hr,hk=>by omega
 | 0,c,m+1,hc,hm,row,hr,hk=>by
   show T21 Ops.std _ _ _ _ _ _ vs ps ts f st cy _ some _=_
   unfold T21
   simp only [qah,qas,qaa,mt,List.length_cons,List.length_nil]
   rw [if_neg (by omega),if_pos (by omega),show IntKind.wrap IntKind.i64 ((i:Int)+1)=((i+1:Nat):Int) from qag (by omega),rowL_eq hr fun j hj=>hk j (by omega)]
   exact hX m (by omega)
 | t+1,c,m+1,hc,hm,row,hr,hk=>by
   show T21 Ops.std _ _ _ _ _ _ vs ps ts f st cy _ some _=_
   unfold T21
   simp only [qah,qan,qak,qaa,qac,hp,hr]
   rw [if_pos (by omega),if_pos (by omega),at_ok st cy c (by omega) (by omega) (by omega),ob_s]
   obtain ⟨v,hv⟩:=eval_ok (ts:=ts) hg ((st++cy).getD c (Ty.dflt ty100)).1.1 ((st++cy).getD c (Ty.dflt ty100)).1.2 p.2 hsh
   have hval:valE vs ps ts (st++cy) p.2 c=!decide (v=0):=by unfold valE;rw [hv];rfl
   simp only [hv,ob_s]
   rw [if_pos (by omega),show IntKind.wrap IntKind.i64 ((c:Int)+1)=((c+1:Nat):Int) from qag (by omega)]
   refine al_l1 i hi K rows hrl p hp hsh D X hX t (c+1) m (by omega) (by omega) _ (by simp [hr]) fun j hj=>?_
   rw [fnB_set _ _ (by omega)]
   by_cases h:j=c
   ·rw [if_pos h,h,hval]
   ·rw [if_neg h];exact hk j (by omega)
end
theorem qct (hR:M18 vs ps ts=some true) (hM:goodM vs ps) (w:List Stp×List Stp) (hw:wordOk vs ps w):∀ (t i n:Nat),i+t=w.1.length+w.2.length→t<n→
  R50 M18 M53 M82 vs ps ts w.1 w.2 n (.l0 i)=some true
 | t,i,0,hi,hn=>by omega
 | 0,i,n+1,hi,hn=>by
   obtain ⟨w1,w2,w3,w4,w5⟩:=hw
   show T50 Ops.std _ _ _ vs ps ts w.1 w.2 _ some _=_
   unfold T50
   simp only [qah,qaa,wrap64 (show -9223372036854775808≤(w.1.length:Int)+(w.2.length:Int) by omega) (by omega)]
   rw [if_neg (by omega)]
 | t+1,i,n+1,hi,hn=>by
   have ih:=qct hR hM w hw t (i+1) n (by omega) (by omega)
   obtain ⟨w1,w2,w3,w4,w5⟩:=hw
   show T50 Ops.std _ _ _ vs ps ts w.1 w.2 _ some _=_
   unfold T50
   simp only [qah,qaa,wrap64 (show -9223372036854775808≤(w.1.length:Int)+(w.2.length:Int) by omega) (by omega)]
   rw [if_pos (by omega),at_ok w.1 w.2 i (by omega) (by omega) (by omega),ob_s]
   have hmem:(w.1++w.2).getD i (Ty.dflt ty100)∈w.1++w.2:=qbk (by simp;omega) _
   have hgs:goodSt vs ps ((w.1++w.2).getD i (Ty.dflt ty100)).1:=by
    rcases List.mem_append.mp hmem with h | h
    ·exact w4 _ h
    ·exact w5 _ h
   simp only [RightState_ok hR hM hgs,ob_s,Bool.not_true,cond_false,show IntKind.wrap IntKind.i64 ((i:Int)+1)=((i+1:Nat):Int) from qag (by omega)]
   exact ih
theorem RightLasso_ok (hR:M18 vs ps ts=some true) (hM:goodM vs ps) (w:List Stp×List Stp) (hw:wordOk vs ps w):M50 vs ps ts w.1 w.2=some true:=by
 have hl:=qct ts hR hM w hw (w.1.length+w.2.length) 0 1000000 (by omega) (by have:=hw.1;have:=hw.2.2.1;omega)
 obtain ⟨w1,w2,w3,w4,w5⟩:=hw
 show T50 Ops.std M18 M53 M82 vs ps ts w.1 w.2 (R50 M18 M53 M82 vs ps ts w.1 w.2 1000000) some none=_
 unfold T50
 rw [hR,ob_s]
 simp only [Bool.not_true,cond_false,qah,qaa,wrap64 (show -9223372036854775808≤(w.1.length:Int)+(w.2.length:Int) by omega) (by omega)]
 rw [if_neg (by omega),if_neg (by omega)]
 exact hl
theorem wf_atm {t:Fm Trm} (ht:WF t):atmOk t.flat:=fun p hp h3=>wf_short ht p hp
noncomputable abbrev allV (vs:List Vrb) (ps:List Pcs) (ts:List Trn) (w:List Stp×List Stp) (u:Fm Trm):List Bool:=rowL (w.1.length+w.2.length) (semT (w.1.length+w.2.length) w.1.length (valE vs ps ts (w.1++w.2)) u)
theorem All_loop (hg:smallG vs ps) (t:Fm Trm) (ht:WF t) (h60:t.size≤60) (w:List Stp×List Stp) (hw:wordOk vs ps w) (R:List (List Bool)):∀ (hend:∀ m,0<m→alR vs ps ts t.flat w.1 w.2 m (.l0 ((w.1.length+w.2.length:Nat):Int) ((t.size:Nat):Int) (t.kids 0) (t.post (allV vs ps ts w)))=some R),∀ m,t.size*(w.1.length+w.2.length+2)<m→alR vs ps ts t.flat w.1 w.2 m (.l0 ((w.1.length+w.2.length:Nat):Int) ((0:Nat):Int) (t.kids 0) [])=some R:=by
 intro hend
 obtain ⟨w1,w2,w3,w4,w5⟩:=hw
 have hlf:=t.flat_len
 have hlk:=t.kids_len 0
 obtain ⟨n,hn⟩:∃ n,w.1.length+w.2.length=n:=⟨_,rfl⟩
 have hb:w.1.length<n:=by omega
 have hfu:∀ i,i<t.size→(t.size-i)*(n+2)=(t.size-(i+1))*(n+2)+(n+2):=fun i hi=>by
  rw [show t.size-i=(t.size-(i+1))+1 by omega,Nat.succ_mul]
 have key:=post_back (allV vs ps ts w) (Ty.dflt ty55) (f:=t.flat) (K:=t.kids 0) (E:=rightE) (fun _=>True) (fun _ _ _=>trivial) (fun _ _ _ _=>⟨trivial,trivial⟩)
  (fun i done=>∀ m,(t.size-i)*(n+2)<m→alR vs ps ts t.flat w.1 w.2 m (.l0 (n:Nat) (i:Nat) (t.kids 0) done)=some R)
 rw [hn] at hend ⊢
 have hval:∀ u,allV vs ps ts w u=rowL n (semT n w.1.length (valE vs ps ts (w.1++w.2)) u):=fun u=>by unfold allV;rw [hn]
 refine key ?_ ?_ ?_ t ht trivial 0 (At.all _) [] rfl ?_
 ·intro i p done hwf _ hi hi2 hd hr hk hX m hm
  have hD:=hfu i (by omega)
  obtain ⟨D,hDe⟩:∃ D,(t.size-(i+1))*(n+2)=D:=⟨_,rfl⟩
  rw [hDe] at hD hX
  rw [hD] at hm
  rw [hval] at hX
  obtain ⟨m,rfl⟩:∃ m',m=m'+1:=⟨m-1,by omega⟩
  show T21 Ops.std _ _ _ _ _ _ vs ps ts t.flat w.1 w.2 _ some _=_
  unfold T21
  have h0n:(0:Int)≤(n:Int):=by omega
  have hlim:n*1≤140737488355328:=by omega
  simp only [qah,qan,qay,qak,qas,qaa,qac,mt,List.length_cons,List.length_nil,hr,hk,decide_true,h0n,hlim,cond_true]
  rw [if_pos (by omega),if_pos (by omega)]
  by_cases h3:p.1=3
  ·rw [if_pos h3]
   refine al_l1 ts hg t.flat (by omega) w.1 w.2 w1 w3 n hn.symm i hi (t.kids 0) done (by omega) p hr (qbz (hwf.2.1 h3)) D (some R) ?_ n 0 m (by omega) (by omega) _ (by simp) (fun j hj=>by omega)
   have hs0:semT n w.1.length (valE vs ps ts (w.1++w.2)) (Fm.nul p)=valE vs ps ts (w.1++w.2) p.2:=by
    show sem0 _ p=_
    unfold sem0;rw [if_neg (by omega),if_neg (by omega)]
   rw [hs0] at hX
   exact hX
  ·have h12:=opn0 hwf.1
   rw [if_neg h3,if_pos (by omega),if_neg (by omega),if_pos (by omega),if_neg (by omega),if_pos (by omega)]
   have htr:M54 p.1 [] [] (n:Nat) (w.1.length:Nat)=some (rowL n (semT n w.1.length (valE vs ps ts (w.1++w.2)) (Fm.nul p))):=by
    refine qd5 hb (by omega) (by rw [hwf.1];omega) ⟨fun h=>by omega,fun h=>by omega⟩ fun i hi=>?_
    show _=sem0 _ p i
    unfold rowOK sem0
    rcases h12 with h | h | h
    ·rw [if_pos h,if_pos h]
    ·rw [if_neg (by omega),if_pos (by omega),if_neg (by omega),if_pos h]
    ·exact absurd h h3
   rw [htr,ob_s,if_pos (by omega),show IntKind.wrap IntKind.i64 ((i:Int)+1)=((i+1:Nat):Int) from qag (by omega)]
   exact hX m (by omega)
 ·intro i p a j done hwf _ hi hi2 hd hr hk hj hda hX m hm
  have hD:=hfu i (by omega)
  obtain ⟨D,hDe⟩:∃ D,(t.size-(i+1))*(n+2)=D:=⟨_,rfl⟩
  rw [hDe] at hD hX
  rw [hD] at hm
  rw [hval] at hX hda
  obtain ⟨m,rfl⟩:∃ m',m=m'+1:=⟨m-1,by omega⟩
  have ho:=opn1 hwf.1
  show T21 Ops.std _ _ _ _ _ _ vs ps ts t.flat w.1 w.2 _ some _=_
  unfold T21
  simp only [qah,qan,qay,qak,qas,qaa,qac,mt,List.length_cons,List.length_nil,hr,hk,hz1,hda]
  rw [if_pos (by omega),if_pos (by omega),if_neg (by omega),if_pos (by omega),if_pos (by omega),if_pos (by omega),if_pos (by omega),if_pos (by omega),if_pos (by omega),if_pos (by omega),if_pos (by omega),if_pos (by omega),if_neg (by omega),if_pos (by omega)]
  have htr:M54 p.1 (rowL n (semT n w.1.length (valE vs ps ts (w.1++w.2)) a)) [] (n:Nat) (w.1.length:Nat)=some (rowL n (semT n w.1.length (valE vs ps ts (w.1++w.2)) (Fm.un p a))):=by
   refine qd5 hb (by omega) (by rw [hwf.1];omega) ⟨fun h=>qcx _ _,fun h=>by omega⟩ fun i hi=>?_
   unfold rowOK
   rw [if_neg (by omega),if_neg (by omega),if_pos (by omega)]
   exact sem1_congr hb p.1 (fun i hi=>qfe n _ i hi) i hi
  rw [htr,ob_s,if_pos (by omega),show IntKind.wrap IntKind.i64 ((i:Int)+1)=((i+1:Nat):Int) from qag (by omega)]
  exact hX m (by omega)
 ·intro i p a c j k done hwf _ hi hi2 hd hr hk hj hk2 hda hdc hX m hm
  have hD:=hfu i (by omega)
  obtain ⟨D,hDe⟩:∃ D,(t.size-(i+1))*(n+2)=D:=⟨_,rfl⟩
  rw [hDe] at hD hX
  rw [hD] at hm
  rw [hval] at hX hda hdc
  obtain ⟨m,rfl⟩:∃ m',m=m'+1:=⟨m-1,by omega⟩
  have ho:=opn2 hwf.1
  show T21 Ops.std _ _ _ _ _ _ vs ps ts t.flat w.1 w.2 _ some _=_
  unfold T21
  simp only [qah,qan,qay,qak,qas,qaa,qac,mt,List.length_cons,List.length_nil,hr,hk,hz20,hz21,hda,hdc]
  rw [if_pos (by omega),if_pos (by omega),if_neg (by omega),if_pos (by omega),if_pos (by omega),if_pos (by omega),if_pos (by omega),if_pos (by omega),if_pos (by omega),if_pos (by omega),if_pos (by omega),if_pos (by omega),if_pos (by omega),if_pos (by omega),if_pos (by omega),if_pos (by omega),if_pos (by omega),if_pos (by omega),if_pos (by omega),if_pos (by omega)]
  have htr:M54 p.1 (rowL n (semT n w.1.length (valE vs ps ts (w.1++w.2)) a)) (rowL n (semT n w.1.length (valE vs ps ts (w.1++w.2)) c)) (n:Nat) (w.1.length:Nat)=some (rowL n (semT n w.1.length (valE vs ps ts (w.1++w.2)) (Fm.bi p a c))):=by
   refine qd5 hb (by omega) (by rw [hwf.1];omega) ⟨fun h=>qcx _ _,fun h=>qcx _ _⟩ fun i hi=>?_
   unfold rowOK
   rw [if_neg (by omega),if_neg (by omega),if_neg (by omega)]
   exact sem2_congr hb p.1 (fun i hi=>qfe n _ i hi) (fun i hi=>qfe n _ i hi) i hi
  rw [htr,ob_s,if_pos (by omega),show IntKind.wrap IntKind.i64 ((i:Int)+1)=((i+1:Nat):Int) from qag (by omega)]
  exact hX m (by omega)
 ·intro m hm
  simp only [Nat.zero_add,List.nil_append]
  exact hend m (by omega)
theorem All_ok (hR:M18 vs ps ts=some true) (hM:goodM vs ps) (hg:smallG vs ps) (t:Fm Trm) (ht:WF t) (h60:t.size≤60) (hk:knA vs ps ts t.flat=true) (w:List Stp×List Stp) (hw:wordOk vs ps w) :
  M21 vs ps ts t.flat w.1 w.2=some (t.post (allV vs ps ts w)):=by
 have hl:=All_loop ts hg t ht h60 w hw (t.post (allV vs ps ts w)) (fun m hm=>by
  obtain ⟨m,rfl⟩:∃ m',m=m'+1:=⟨m-1,by omega⟩
  have hlf:=t.flat_len
  show T21 Ops.std _ _ _ _ _ _ vs ps ts t.flat w.1 w.2 _ some _=_
  unfold T21
  simp only [qah,qaa]
  rw [if_neg (by omega)]) 1000000 (by
   have h1:=hw.1;have h2:=hw.2.2.1
   have:t.size*(w.1.length+w.2.length+2)≤60*14:=Nat.mul_le_mul h60 (by omega)
   omega)
 have hla:=RightLasso_ok ts hR hM w hw
 obtain ⟨w1,w2,w3,w4,w5⟩:=hw
 show T21 Ops.std M19 M50 M51 M53 M52 M54 vs ps ts t.flat w.1 w.2 (alR vs ps ts t.flat w.1 w.2 1000000) some none=_
 unfold T21
 rw [qf2 ts hg t.flat (by rw [t.flat_len];exact h60) (wf_atm ht) (qdi ht h60),ob_s,hk,hla,ob_s,qed rightE ht h60 (qdi ht h60),ob_s,wrap64 (show -9223372036854775808≤(w.1.length:Int)+(w.2.length:Int) by omega) (by omega)]
 exact hl
end
def duF (f:List Prt):Nat→Nat→List Int
 | _,0=>[]
 | i,t+1=>if (f.getD i (Ty.dflt ty93)).1=9∨(f.getD i (Ty.dflt ty93)).1=10 then (i:Int)::duF f (i+1) t else duF f (i+1) t
theorem qc7 (f:List Prt):∀ t i,(duF f i t).length≤t
 | 0,i=>by simp [duF]
 | t+1,i=>by
   have:=qc7 f t (i+1)
   simp only [duF]
   split<;>simp<;>omega
theorem duF_mem (f:List Prt):∀ t i (x:Int),x∈duF f i t→∃ j:Nat,x=j∧i≤j∧j<i+t∧((f.getD j (Ty.dflt ty93)).1=9∨(f.getD j (Ty.dflt ty93)).1=10)
 | 0,i,x,h=>by simp [duF] at h
 | t+1,i,x,h=>by
   simp only [duF] at h
   split at h
   ·rename_i hc
    rcases List.mem_cons.1 h with rfl | h
    ·exact ⟨i,rfl,Nat.le_refl _,by omega,hc⟩
    ·obtain ⟨j,h1,h2,h3,h4⟩:=duF_mem f t (i+1) x h
     exact ⟨j,h1,by omega,by omega,h4⟩
   ·obtain ⟨j,h1,h2,h3,h4⟩:=duF_mem f t (i+1) x h
    exact ⟨j,h1,by omega,by omega,h4⟩
theorem kids_two {E:List Trm→Bool} {f:List Prt} {K:List (List Int)}:∀ (t:Fm Trm),t.wf E→∀ (b:Nat),At f K t b→∀ i,b≤i→i<b+t.size→opn (f.getD i (Ty.dflt ty93)).1=2→∃ x y:Nat,K.getD i (Ty.dflt ty22)=[(x:Int),(y:Int)]∧y<f.length:=by
 intro t
 induction t with
 | nul p=>
   intro ht b hat i h1 h2 ho
   simp only [Fm.size] at h2
   have hr:=hat.root (Ty.dflt ty93)
   simp only [Fm.size,Fm.root,Nat.add_sub_cancel] at hr
   rw [show i=b by omega,hr,ht.1] at ho
   omega
 | un p a ih=>
   intro ht b hat i h1 h2 ho
   simp only [Fm.size] at h2
   by_cases hi:i<b+a.size
   ·exact ih ht.2.2 b hat.un i h1 hi ho
   ·have hr:=hat.root (Ty.dflt ty93)
    have e:b+(Fm.un p a).size-1=b+a.size:=by simp only [Fm.size];omega
    rw [e] at hr
    rw [show i=b+a.size by omega,hr] at ho
    simp only [Fm.root] at ho
    rw [ht.1] at ho;omega
 | bi p a c iha ihc=>
   intro ht b hat i h1 h2 ho
   simp only [Fm.size] at h2
   have hsa:=a.size_pos
   have hsc:=c.size_pos
   by_cases hi:i<b+a.size
   ·exact iha ht.2.2.1 b hat.bi1 i h1 hi ho
   ·by_cases hi2:i<b+a.size+c.size
    ·exact ihc ht.2.2.2 (b+a.size) hat.bi2 i (by omega) hi2 ho
    ·have hk:=hat.last (Ty.dflt ty22)
     have hlen:=hat.len
     have e:b+(Fm.bi p a c).size-1=b+a.size+c.size:=by simp only [Fm.size];omega
     rw [e] at hk
     rw [show i=b+a.size+c.size by omega,hk]
     simp only [Fm.size] at hlen
     exact ⟨b+a.size-1,b+a.size+c.size-1,rfl,by omega⟩
def met1 (f:List Prt) (K:List (List Int)) (tr:List Bool) (x:Int):Bool:=
 let i:=x.toNat
 let g:=tr.getD (Int.toNat ((K.getD i (Ty.dflt ty22)).getD 1 0)) false
 if (f.getD i (Ty.dflt ty93)).1=10 then tr.getD i false || !g else !tr.getD i false || g
theorem post_map {A B:Type} (g:A→B) (val:Fm Trm→A) (t:Fm Trm):(t.post val).map g=t.post fun u=>g (val u):=by
 induction t with
 | nul p=>rfl
 | un p a ih=>simp [Fm.post,ih]
 | bi p a c iha ihc=>simp [Fm.post,iha,ihc]
theorem post_bi {E:List Trm→Bool} {f:List Prt} {K:List (List Int)}:∀ (t:Fm Trm),t.wf E→∀ (b:Nat),At f K t b→∀ i,b≤i→i<b+t.size→opn (f.getD i (Ty.dflt ty93)).1=2→
  ∃ (p:Prt) (a c:Fm Trm) (x y:Nat),f.getD i (Ty.dflt ty93)=p∧K.getD i (Ty.dflt ty22)=[(x:Int),(y:Int)]∧∀ {A:Type} (val:Fm Trm→A) (d:A) (pre q:List A),pre.length=b→(pre++t.post val++q).getD i d=val (.bi p a c)∧(pre++t.post val++q).getD y d=val c:=by
 intro t
 induction t with
 | nul p=>
   intro ht b hat i h1 h2 ho
   simp only [Fm.size] at h2
   have hr:=hat.root (Ty.dflt ty93)
   simp only [Fm.size,Fm.root,Nat.add_sub_cancel] at hr
   rw [show i=b by omega,hr,ht.1] at ho
   omega
 | un p a ih=>
   intro ht b hat i h1 h2 ho
   simp only [Fm.size] at h2
   by_cases hi:i<b+a.size
   ·obtain ⟨p',a',c',x,y,e1,e2,e3⟩:=ih ht.2.2 b hat.un i h1 hi ho
    refine ⟨p',a',c',x,y,e1,e2,fun {A} val d pre q hp=>?_⟩
    have:=e3 val d pre ([val (.un p a)]++q) hp
    simpa [Fm.post] using this
   ·have hr:=hat.root (Ty.dflt ty93)
    have e:b+(Fm.un p a).size-1=b+a.size:=by simp only [Fm.size];omega
    rw [e] at hr
    rw [show i=b+a.size by omega,hr] at ho
    simp only [Fm.root] at ho
    rw [ht.1] at ho;omega
 | bi p a c iha ihc=>
   intro ht b hat i h1 h2 ho
   simp only [Fm.size] at h2
   have hsa:=a.size_pos
   have hsc:=c.size_pos
   by_cases hi:i<b+a.size
   ·obtain ⟨p',a',c',x,y,e1,e2,e3⟩:=iha ht.2.2.1 b hat.bi1 i h1 hi ho
    refine ⟨p',a',c',x,y,e1,e2,fun {A} val d pre q hp=>?_⟩
    have:=e3 val d pre (c.post val++[val (.bi p a c)]++q) hp
    simpa [Fm.post] using this
   ·by_cases hi2:i<b+a.size+c.size
    ·obtain ⟨p',a',c',x,y,e1,e2,e3⟩:=ihc ht.2.2.2 (b+a.size) hat.bi2 i (by omega) hi2 ho
     refine ⟨p',a',c',x,y,e1,e2,fun {A} val d pre q hp=>?_⟩
     have:=e3 val d (pre++a.post val) ([val (.bi p a c)]++q) (by simp [qbm,hp])
     simpa [Fm.post] using this
    ·have hk:=hat.last (Ty.dflt ty22)
     have hr:=hat.root (Ty.dflt ty93)
     have e:b+(Fm.bi p a c).size-1=b+a.size+c.size:=by simp only [Fm.size];omega
     rw [e] at hk hr
     have ei:i=b+a.size+c.size:=by omega
     refine ⟨p,a,c,b+a.size-1,b+a.size+c.size-1,by rw [ei,hr];rfl,by rw [ei,hk];rfl,fun {A} val d pre q hp=>?_⟩
     have g1:=qdj val d (.bi p a c) pre q
     have g2:=qdj val d c (pre++a.post val) ([val (.bi p a c)]++q)
     have l1:(pre++a.post val).length=b+a.size:=by simp [qbm,hp]
     rw [hp,e,←ei] at g1
     rw [l1] at g2
     refine ⟨g1,?_⟩
     rw [←g2]
     simp [Fm.post]
theorem duty_met {n back:Nat} (hb:back<n) (V:List Trm→Nat→Bool) {u:Fm Trm} (hu:u.wf rightE) (x:Int) (hx:x∈duF u.flat 0 u.flat.length) :
  ∃ i,back≤i∧i<n∧met1 u.flat (u.kids 0) (u.post fun w=>semT n back V w i) x=true:=by
 obtain ⟨j,rfl,h2,h3,h4⟩:=duF_mem _ _ _ _ hx
 obtain ⟨p,a,c,y,z,e1,e2,e3⟩:=post_bi u hu 0 (At.all u) j (by omega) (by have:=u.flat_len;omega) (by rcases h4 with h | h<;>rw [h]<;>rfl)
 have get:∀ i,(u.post fun w=>semT n back V w i).getD j false=semT n back V (.bi p a c) i∧(u.post fun w=>semT n back V w i).getD z false=semT n back V c i:=fun i=>by
  have:=e3 (fun w=>semT n back V w i) false [] [] rfl
  simpa using this
 rw [e1] at h4
 have hm:∀ i,met1 u.flat (u.kids 0) (u.post fun w=>semT n back V w i) (j:Int)=if p.1=10 then semT n back V (.bi p a c) i || !semT n back V c i else !semT n back V (.bi p a c) i || semT n back V c i:=fun i=>by
  obtain ⟨g1,g2⟩:=get i
  have hz:Int.toNat (([(y:Int),(z:Int)]:List Int).getD 1 0)=z:=rfl
  unfold met1
  simp only [Int.toNat_natCast,e1,e2,hz,g1,g2]
 rcases h4 with h | h
 ·obtain ⟨i,i1,i2,i3⟩:=duty_U hb (semT n back V a) (semT n back V c)
  refine ⟨i,i1,i2,?_⟩
  rw [hm,if_neg (by omega)]
  have:semT n back V (.bi p a c)=lf n back (ruU (semT n back V a) (semT n back V c)):=by
   show sem2 n back p.1 _ _=_
   unfold sem2
   rw [if_neg (by omega),if_neg (by omega),if_neg (by omega),if_pos h]
  rw [this];exact i3
 ·obtain ⟨i,i1,i2,i3⟩:=duty_R hb (semT n back V a) (semT n back V c)
  refine ⟨i,i1,i2,?_⟩
  rw [hm,if_pos h]
  have:semT n back V (.bi p a c)=gf n back (ruR (semT n back V a) (semT n back V c)):=by
   show sem2 n back p.1 _ _=_
   unfold sem2
   rw [if_neg (by omega),if_neg (by omega),if_neg (by omega),if_neg (by omega)]
  rw [this];exact i3
theorem qcg (f:List Prt) (hl:f.length<100000):∀ (t i n:Nat) (out:List Int),i+t=f.length→t<n→out.length≤i→R22 M55 f n (.l0 (f.length:Nat) i out)=some (out++duF f i t)
 | t,i,0,out,hi,hn,ho=>by omega
 | 0,i,n+1,out,hi,hn,ho=>by
   show T22 Ops.std _ f _ some _=_
   unfold T22
   simp only [qah,qaa]
   rw [if_neg (by omega)]
   simp [duF]
 | t+1,i,n+1,out,hi,hn,ho=>by
   have ih:=qcg f hl t (i+1) n
   show T22 Ops.std _ f _ some _=_
   unfold T22
   have hw:IntKind.wrap IntKind.i64 ((i:Int)+1)=((i+1:Nat):Int):=qag (by omega)
   simp only [qah,qan,qak,qas,qaa,qac,hw,duF,mt,List.length_cons,List.length_nil]
   rw [if_pos (by omega),if_pos (by omega)]
   by_cases h9:(f.getD i (Ty.dflt ty93)).1=9
   ·rw [if_pos h9,if_pos (by omega),if_pos (.inl h9)]
    refine (ih _ (by omega) (by omega) (by simp;omega)).trans ?_
    simp
   ·rw [if_neg h9]
    by_cases h10:(f.getD i (Ty.dflt ty93)).1=10
    ·rw [if_pos h10,if_pos (by omega),if_pos (.inr h10)]
     refine (ih _ (by omega) (by omega) (by simp;omega)).trans ?_
     simp
    ·rw [if_neg h10,if_neg (by rintro (h | h);exact h9 h;exact h10 h)]
     exact ih _ (by omega) (by omega) (by omega)
theorem qff (f:List Prt) (hl:f.length<100000) (b:Bool) (hi:M55 f=some b):M22 f=some (if b then duF f 0 f.length else []):=by
 show T22 Ops.std M55 f (R22 M55 f 1000000) some none=_
 unfold T22
 rw [hi,ob_s]
 cases b with
 | false=>rfl
 | true=>exact (qcg f hl f.length 0 1000000 [] (by omega) (by omega) (by simp)).trans (by simp)
theorem qcu (f:List Prt) (hl:f.length<100000):∀ (t i n:Nat) (out:List Int),i+t=f.length→t<n→out.length≤i→R24 f n (.l0 i out)=some (out++duF f i t)
 | t,i,0,out,hi,hn,ho=>by omega
 | 0,i,n+1,out,hi,hn,ho=>by
   show T24 Ops.std f _ some _=_
   unfold T24
   simp only [qah,qaa]
   rw [if_neg (by omega)]
   simp [duF]
 | t+1,i,n+1,out,hi,hn,ho=>by
   have ih:=qcu f hl t (i+1) n
   show T24 Ops.std f _ some _=_
   unfold T24
   have hw:IntKind.wrap IntKind.i64 ((i:Int)+1)=((i+1:Nat):Int):=qag (by omega)
   have hin:(0:Int)≤(i:Int)∧(i:Int)<(f.length:Int):=by omega
   simp only [qah,qan,qak,qas,qaa,qac,hw,duF,if_pos hin,mt,List.length_cons,List.length_nil]
   rw [if_pos hin.2]
   by_cases h9:(f.getD i (Ty.dflt ty93)).1=9
   ·rw [if_pos h9,if_pos (by omega),if_pos (.inl h9)]
    refine (ih _ (by omega) (by omega) (by simp;omega)).trans ?_
    simp
   ·rw [if_neg h9]
    by_cases h10:(f.getD i (Ty.dflt ty93)).1=10
    ·rw [if_pos h10,if_pos (by omega),if_pos (.inr h10)]
     refine (ih _ (by omega) (by omega) (by simp;omega)).trans ?_
     simp
    ·rw [if_neg h10,if_neg (by rintro (h | h);exact h9 h;exact h10 h)]
     exact ih _ (by omega) (by omega) (by omega)
theorem duties_ref (f:List Prt) (hl:f.length<100000):M24 f=some (duF f 0 f.length):=by
 show T24 Ops.std f (R24 f 1000000) some none=_
 unfold T24
 exact (qcu f hl f.length 0 1000000 [] (by omega) (by omega) (by simp)).trans (by simp)
section
variable (f:List Prt) (K:List (List Int)) (tr:List Bool) (hK:f.length≤K.length) (htr:tr.length=f.length) (hl:f.length≤60)
theorem met_stepP (ks:List Int) (hks:∀ x∈ks,∃ j:Nat,x=j∧j<f.length∧((f.getD j (Ty.dflt ty93)).1=9∨(f.getD j (Ty.dflt ty93)).1=10)∧∃ a y:Nat,K.getD j (Ty.dflt ty22)=[(a:Int),(y:Int)]∧y<f.length)
  (hkl:ks.length≤60) (hK:f.length≤K.length) (htr:tr.length=f.length) (hl:f.length≤60):∀ (t j n:Nat) (out:List Bool),j+t=ks.length→t<n→out.length≤j→
  R23 M56 M22 f tr n (.l0 (ks.length:Nat) j K out ks)=some (out++(ks.drop j).map (met1 f K tr))
 | t,j,0,out,hi,hn,ho=>by omega
 | 0,j,n+1,out,hi,hn,ho=>by
   show T23 Ops.std _ _ f tr _ some _=_
   unfold T23
   simp only [qah,qaa]
   rw [if_neg (by omega),List.drop_eq_nil_of_le (by omega)]
   simp
 | t+1,j,n+1,out,hi,hn,ho=>by
   have ih:=fun b=>met_stepP ks hks hkl hK htr hl t (j+1) n (out++[b]) (by omega) (by omega) (by simp;omega)
   have hw:IntKind.wrap IntKind.i64 ((j:Int)+1)=((j+1:Nat):Int):=qag (by omega)
   have hjl:j<ks.length:=by omega
   have hmem:ks.getD j (Ty.dflt ty3)∈ks:=by
    rw [List.getD_eq_getElem?_getD,List.getElem?_eq_getElem hjl]
    exact List.getElem_mem _
   obtain ⟨i,hi1,hi2,hi3,a,y,hy1,hy2⟩:=hks _ hmem
   have hd:ks.drop j=(i:Int)::ks.drop (j+1):=by rw [←hi1];exact qbp _ hjl
   rw [hd,List.map_cons]
   have hg1:([(a:Int),(y:Int)]:List Int).getD (Int.toNat 1) (Ty.dflt (Ty.int IntKind.i64))=(y:Int):=rfl
   have hg1':([(a:Int),(y:Int)]:List Int).getD 1 0=(y:Int):=rfl
   have hm:met1 f K tr (i:Int)=if (f.getD i (Ty.dflt ty93)).1=10 then tr.getD i false || !tr.getD y false else !tr.getD i false || tr.getD y false:=by
    simp only [met1,Int.toNat_natCast,hy1,hg1']
   rw [hm]
   have hfin:∀ b:Bool,out++b::(ks.drop (j+1)).map (met1 f K tr)=out++[b]++(ks.drop (j+1)).map (met1 f K tr):=fun b=>by simp
   have c1:(0:Int)≤(i:Int)∧(i:Int)<(K.length:Int):=by omega
   have c2:(0:Int)≤(i:Int)∧(i:Int)<(tr.length:Int):=by omega
   have c3:(0:Int)≤(i:Int)∧(i:Int)<(f.length:Int):=by omega
   have c4:(0:Int)≤(y:Int)∧(y:Int)<(tr.length:Int):=by omega
   have c5:(0:Int)≤(j:Int)∧(j:Int)<(ks.length:Int):=by omega
   have c6:(out.length+1)*1≤140737488355328:=by omega
   have c7:(0:Int)≤1∧(1:Int)<((2:Nat):Int):=by decide
   have hdf:(Ty.dflt ty4)=false:=rfl
   show T23 Ops.std _ _ f tr _ some _=_
   unfold T23
   simp only [mt,qah,qan,qak,qas,qaa,qac,hw,hi1,hy1,hg1,hdf,List.length_cons,List.length_nil,if_pos c1,if_pos c2,if_pos c3,if_pos c4,if_pos c5,if_pos c5.2,if_pos c6,if_pos c7]
   by_cases h10:(f.getD i (Ty.dflt ty93)).1=10
   ·simp only [if_pos h10]
    cases hb:tr.getD i false with
    | true=>simp only [Bool.not_true,cond_false,cond_true,Bool.true_or];rw [hfin];exact ih true
    | false=>simp only [Bool.not_false,cond_false,cond_true,Bool.false_or];rw [hfin];exact ih _
   ·simp only [if_neg h10]
    cases hb:tr.getD i false with
    | true=>simp only [Bool.not_true,cond_false,cond_true,Bool.false_or];rw [hfin];exact ih _
    | false=>simp only [Bool.not_false,cond_false,cond_true,Bool.true_or];rw [hfin];exact ih true
end
theorem met_valP {u:Fm Trm} (hu:WF u) (hi:isT u=true) (h60:u.size≤60) (tr:List Bool) (htr:tr.length=u.size):M23 u.flat tr=some ((duF u.flat 0 u.flat.length).map (met1 u.flat (u.kids 0) tr)):=by
 have hfl:=u.flat_len
 have hr1:=T_rightP hu h60
 have hks:∀ x∈duF u.flat 0 u.flat.length,∃ j:Nat,x=j∧j<u.flat.length∧((u.flat.getD j (Ty.dflt ty93)).1=9∨(u.flat.getD j (Ty.dflt ty93)).1=10)∧∃ a y:Nat,(u.kids 0).getD j (Ty.dflt ty22)=[(a:Int),(y:Int)]∧y<u.flat.length:=fun x hx=>by
  obtain ⟨j,h1,h2,h3,h4⟩:=duF_mem _ _ _ _ hx
  obtain ⟨a,y,h5,h6⟩:=kids_two u hu 0 (At.all u) j (by omega) (by omega) (by rcases h4 with h | h<;>rw [h]<;>rfl)
  exact ⟨j,h1,by omega,h4,a,y,h5,h6⟩
 have hkl:=qc7 u.flat u.flat.length 0
 have hm:=met_stepP u.flat (u.kids 0) tr (duF u.flat 0 u.flat.length) hks (by omega) (by rw [u.kids_len];omega) (by omega) (by omega) (duF u.flat 0 u.flat.length).length 0 1000000 [] (by omega) (by omega) (by simp)
 show T23 Ops.std M56 M22 u.flat tr (R23 M56 M22 u.flat tr 1000000) some none=_
 unfold T23
 simp only [qan,qa4,qaa]
 rw [if_neg (by simp [htr,hfl]),qdb rightE hu h60 hr1,ob_s,qff u.flat (by omega) true (by rw [T_IsP hu h60,hi]),ob_s]
 exact hm.trans (by simp)
theorem known18:M12=some true:=by kernel_rfl
theorem of_ok18 (s:List UInt8):∃ f:List Prt,M15 s=some f∧(f=[]∨(f.length≤24∧goodF f)):=by
 obtain ⟨e,x,f,h1,h2⟩:=parse_ok s
 refine ⟨f,?_,?_⟩
 ·show T15 Ops.std M42 s some=_
  unfold T15
  rw [h1,ob_s]
 ·rcases h2 with h | h
  ·exact .inl h
  ·exact .inr h.2
theorem nf_okR {f:List Prt} (h:f=[]∨(f.length≤24∧goodF f)):∃ a b:List Prt,M14 f=some a∧M17 f=some b∧(a=[]∨∃ u,WF u∧isT u=true∧u.size≤60∧a=u.flat)∧(b=[]∨∃ u,WF u∧isT u=true∧u.size≤60∧b=u.flat):=by
 rcases h with rfl | ⟨h24,hg⟩
 ·obtain ⟨h2,h4⟩:=N_NnfR (f:=[]) (by simp) (by simp) rfl
  exact ⟨[],[],h2,h4,.inl rfl,.inl rfl⟩
 ·obtain ⟨t,ht,rfl,h60⟩:=good_tree hg (by omega)
  have key:∀ no,nnfL t no=[]∨∃ u,WF u∧isT u=true∧u.size≤60∧nnfL t no=u.flat:=fun no=>by
   unfold nnfL
   by_cases hs:(nnfT t no).size≤60
   ·exact .inr ⟨nnfT t no,nnfT_wf ht no,nnfT_is ht no,hs,if_pos hs⟩
   ·exact .inl (if_neg hs)
  exact ⟨_,_,T_NnfR ht h60,T_NegateR ht h60,key false,key true⟩
theorem post_all18 {A:Type} {P:A→Prop} (val:Fm Trm→A) (h:∀ u,P (val u)):∀ (t:Fm Trm),∀ x∈t.post val,P x:=by
 intro t
 induction t with
 | nul p=>intro x hx;rw [Fm.post,List.mem_singleton] at hx;rw [hx];exact h _
 | un p a ih=>
   intro x hx
   rw [Fm.post,List.mem_append,List.mem_singleton] at hx
   rcases hx with hx | hx
   ·exact ih x hx
   ·rw [hx];exact h _
 | bi p a c iha ihc=>
   intro x hx
   rw [Fm.post,List.mem_append,List.mem_append,List.mem_singleton] at hx
   rcases hx with (hx | hx) | hx
   ·exact iha x hx
   ·exact ihc x hx
   ·rw [hx];exact h _
def anyB (p:Nat→Bool):Nat→Bool
 | 0=>false
 | c+1=>anyB p c || p c
theorem anyB_true (p:Nat→Bool) (q:Nat) (h:p q=true):∀ c,q<c→anyB p c=true
 | 0,hq=>by omega
 | c+1,hq=>by
   unfold anyB
   by_cases e:q=c
   ·subst e;rw [h];simp
   ·rw [anyB_true p q h c (by omega)];rfl
theorem eq_fnB {l m:List Bool} (hl:l.length=m.length) (h:∀ j,j<m.length→fnB l j=fnB m j):l=m:=by
 apply List.ext_getElem hl
 intro j h1 h2
 have:=h j h2
 unfold fnB at this
 rw [List.getD_eq_getElem?_getD,List.getD_eq_getElem?_getD,List.getElem?_eq_getElem h1,List.getElem?_eq_getElem h2] at this
 exact this
theorem qdo (l:List Int) (g:Int→Bool) (j:Nat) (hj:j<l.length):fnB (l.map g) j=g (l.getD j 0):=by
 unfold fnB
 rw [List.getD_eq_getElem?_getD,List.getD_eq_getElem?_getD,List.getElem?_map,List.getElem?_eq_getElem hj];rfl
section
variable (vs:List Vrb) (ps:List Pcs) (ts:List Trn) (t:Fm Trm) (w:List Stp×List Stp)
noncomputable def colW18 (i:Nat):List Bool:=t.post fun u=>semT (w.1.length+w.2.length) w.1.length (valE vs ps ts (w.1++w.2)) u i
theorem qf3 (i:Nat):(colW18 vs ps ts t w i).length=t.size:=qbm _ t
theorem allW18_get (k i:Nat) (hk':k<t.size) (hi':i<w.1.length+w.2.length):((t.post (allV vs ps ts w)).getD k (Ty.dflt ty55)).getD i (Ty.dflt Ty.bool)=(colW18 vs ps ts t w i).getD k false:=by
 have e:=post_map (fun r:List Bool=>fnB r i) (allV vs ps ts w) t
 have e2:(t.post fun u=>fnB (allV vs ps ts w u) i)=colW18 vs ps ts t w i:=by
  unfold colW18
  congr 1
  funext u
  exact qfe _ _ i hi'
 rw [e2] at e
 rw [←e]
 have hl:k<(t.post (allV vs ps ts w)).length:=by rw [qbm];exact hk'
 simp only [List.getD_eq_getElem?_getD,List.getElem?_map,List.getElem?_eq_getElem hl,Option.map_some,Option.getD_some]
 unfold fnB
 rw [List.getD_eq_getElem?_getD]
theorem allW18_len (k:Nat) (hk':k<t.size):((t.post (allV vs ps ts w)).getD k (Ty.dflt ty55)).length=w.1.length+w.2.length:=
 post_all18 (P:=fun r:List Bool=>r.length=w.1.length+w.2.length) (allV vs ps ts w) (fun u=>qcx _ _) t _ (qbk (by rw [qbm];exact hk') _)
noncomputable def isL (c:Nat):List Bool:=(duF t.flat 0 t.flat.length).map (met1 t.flat (t.kids 0) (colW18 vs ps ts t w (w.1.length+c)))
noncomputable def mtL (c:Nat):List Bool:=(duF t.flat 0 t.flat.length).map fun x=>anyB (fun q=>met1 t.flat (t.kids 0) (colW18 vs ps ts t w (w.1.length+q)) x) c
theorem mtL_len (c:Nat):(mtL vs ps ts t w c).length=(duF t.flat 0 t.flat.length).length:=by unfold mtL;simp
theorem isL_len (c:Nat):(isL vs ps ts t w c).length=(duF t.flat 0 t.flat.length).length:=by unfold isL;simp
theorem mtL_zero:mtL vs ps ts t w 0=List.replicate (duF t.flat 0 t.flat.length).length false:=by
 unfold mtL anyB
 rw [List.map_const']
theorem mtL_succ (c j:Nat) (hj:j<(duF t.flat 0 t.flat.length).length):fnB (mtL vs ps ts t w (c+1)) j=(fnB (mtL vs ps ts t w c) j || fnB (isL vs ps ts t w c) j):=by
 unfold mtL isL
 rw [qdo _ _ j hj,qdo _ _ j hj,qdo _ _ j hj]
 rfl
theorem mtL_all (ht:WF t) (h0:1≤w.2.length) (j:Nat) (hj:j<(duF t.flat 0 t.flat.length).length):fnB (mtL vs ps ts t w w.2.length) j=true:=by
 unfold mtL
 rw [qdo _ _ j hj]
 have hm:(duF t.flat 0 t.flat.length).getD j 0∈duF t.flat 0 t.flat.length:=qbk hj _
 obtain ⟨i,h1,h2,h3⟩:=duty_met (n:=w.1.length+w.2.length) (back:=w.1.length) (by omega) (valE vs ps ts (w.1++w.2)) ht _ hm
 refine anyB_true _ (i-w.1.length) ?_ _ (by omega)
 show met1 t.flat (t.kids 0) (colW18 vs ps ts t w (w.1.length+(i-w.1.length))) _=true
 rw [show w.1.length+(i-w.1.length)=i by omega]
 exact h3
end
section
variable (p0:List Int) (p1:Bool) (p2 p3:Int) (p4:List (List Int)) (p5 p6:List Int)
noncomputable abbrev fwR:=R5 M12 M13 M16 M15 M14 M17 M18 M19 M20 M21 M22 M23 M24 p0 p1 p2 p3 p4 p5 p6
variable {vs:List Vrb} {ps:List Pcs} {ts:List Trn} {t:Fm Trm} (ht:WF t) (hi:isT t=true) (h60:t.size≤60)
 (w:List Stp×List Stp) (hw1:w.1.length≤6) (hw2:w.2.length≤6) (hw0:1≤w.2.length)
 (rows:List (List Bool)) (hrows:rows=t.post (allV vs ps ts w)) (n:Nat) (hn:n=(duF t.flat 0 t.flat.length).length)
include h60 hn in
theorem fw_l3 (met:List Bool) (hm:met.length=n) (hall:∀ j,j<n→fnB met j=true):∀ (r d m:Nat),d+r=n→r<m→fwR p0 p1 p2 p3 p4 p5 p6 m (.l3 t.flat (n:Int) (n:Int) (d:Int) met)=some true
 | r,d,0,hd,hr=>by omega
 | 0,d,m+1,hd,hr=>by
   have hfl:=t.flat_len
   show T5 Ops.std _ _ _ _ _ _ _ _ _ _ _ _ _ p0 p1 p2 p3 p4 p5 p6 _ some _=_
   unfold T5
   simp only [qah,qan,qaa]
   rw [if_neg (by omega),duties_ref t.flat (by omega),ob_s,←hn]
   simp
 | r+1,d,m+1,hd,hr=>by
   have ih:=fw_l3 met hm hall r (d+1) m (by omega) (by omega)
   have hkl:=qc7 t.flat t.flat.length 0
   have hfl:=t.flat_len
   have hv:met.getD d (Ty.dflt ty4)=true:=hall d (by omega)
   show T5 Ops.std _ _ _ _ _ _ _ _ _ _ _ _ _ p0 p1 p2 p3 p4 p5 p6 _ some _=_
   unfold T5
   simp only [qah,qak,qaa,qac,hm,hv,Bool.not_true,cond_false,show IntKind.wrap IntKind.i64 ((d:Int)+1)=((d+1:Nat):Int) from qag (by omega)]
   rw [if_pos (by omega),if_pos (by omega)]
   exact ih
include h60 hn hw1 hw2 in
theorem fw_l2 (i c:Nat) (hic:i=w.1.length+c) (hc:c<w.2.length) (D:Nat)
  (hnx:∀ m,D<m→fwR p0 p1 p2 p3 p4 p5 p6 m (.l0 t.flat (n:Int) ((i+1:Nat):Int) w.1 w.2 rows (mtL vs ps ts t w (c+1)))=some true) :
  ∀ (r d m:Nat) (met:List Bool),d+r=n→D+r+1<m→met.length=n→(∀ j,j<n→fnB met j=if j<d then fnB (mtL vs ps ts t w (c+1)) j else fnB (mtL vs ps ts t w c) j)→
    fwR p0 p1 p2 p3 p4 p5 p6 m (.l2 t.flat (n:Int) (i:Int) (n:Int) (d:Int) w.1 w.2 rows met (isL vs ps ts t w c))=some true
 | r,d,0,met,hd,hr,hm,hall=>by omega
 | 0,d,m+1,met,hd,hr,hm,hall=>by
   have e:met=mtL vs ps ts t w (c+1):=eq_fnB (by rw [hm,mtL_len,hn]) fun j hj=>by
    rw [mtL_len,←hn] at hj
    have hjd:j<d:=by omega
    rw [hall j hj,if_pos hjd]
   show T5 Ops.std _ _ _ _ _ _ _ _ _ _ _ _ _ p0 p1 p2 p3 p4 p5 p6 _ some _=_
   unfold T5
   simp only [qah,qaa,show IntKind.wrap IntKind.i64 ((i:Int)+1)=((i+1:Nat):Int) from qag (by omega)]
   rw [if_neg (by omega),e]
   exact hnx m (by omega)
 | r+1,d,m+1,met,hd,hr,hm,hall=>by
   have hkl:=qc7 t.flat t.flat.length 0
   have hfl:=t.flat_len
   have hil:(isL vs ps ts t w c).length=n:=by rw [isL_len,hn]
   have hs:=mtL_succ vs ps ts t w c d (by omega)
   have hd0:=hall d (by omega)
   rw [if_neg (by omega)] at hd0
   have ih:=fun (v:Bool) (hv:v=fnB (mtL vs ps ts t w (c+1)) d)=>fw_l2 i c hic hc D hnx r (d+1) m (met.set d v) (by omega) (by omega) (by rw [List.length_set];exact hm) (fun j hj=>by
    rw [fnB_set met d (by omega)]
    by_cases e:j=d
    ·subst e;rw [if_pos rfl,if_pos (by omega),hv]
    ·rw [if_neg e,hall j hj]
     by_cases h:j<d
     ·rw [if_pos h,if_pos (by omega)]
     ·rw [if_neg h,if_neg (by omega)])
   have g1:met.getD d (Ty.dflt ty4)=fnB (mtL vs ps ts t w c) d:=hd0
   have g2:(isL vs ps ts t w c).getD d (Ty.dflt ty4)=fnB (isL vs ps ts t w c) d:=rfl
   have cd:(0:Int)≤(d:Int)∧(d:Int)<(n:Int):=by omega
   show T5 Ops.std _ _ _ _ _ _ _ _ _ _ _ _ _ p0 p1 p2 p3 p4 p5 p6 _ some _=_
   unfold T5
   simp only [qah,qak,qaa,qac,hm,hil,g1,g2,if_pos cd,if_pos cd.2,show IntKind.wrap IntKind.i64 ((d:Int)+1)=((d+1:Nat):Int) from qag (by omega)]
   cases hb:fnB (mtL vs ps ts t w c) d with
   | true=>
     simp only [cond_true]
     exact ih true (by rw [hs,hb];rfl)
   | false=>
     simp only [cond_false]
     exact ih _ (by rw [hs,hb];rfl)
include ht hi h60 hn hw1 hw2 hrows in
theorem fw_l1 (i c:Nat) (hic:i=w.1.length+c) (hc:c<w.2.length) (D:Nat)
  (hnx:∀ m,D<m→fwR p0 p1 p2 p3 p4 p5 p6 m (.l0 t.flat (n:Int) ((i+1:Nat):Int) w.1 w.2 rows (mtL vs ps ts t w (c+1)))=some true) :
  ∀ (r k m:Nat),k+r=t.size→D+100+r<m→fwR p0 p1 p2 p3 p4 p5 p6 m (.l1 t.flat (n:Int) (i:Int) ((t.size:Nat):Int) (k:Int) w.1 w.2 rows (mtL vs ps ts t w c) ((colW18 vs ps ts t w i).take k))=some true
 | r,k,0,hk,hr=>by omega
 | 0,k,m+1,hk,hr=>by
   have hcl:=qf3 vs ps ts t w i
   have m1:=met_valP ht hi h60 (colW18 vs ps ts t w i) hcl
   have eis:(duF t.flat 0 t.flat.length).map (met1 t.flat (t.kids 0) (colW18 vs ps ts t w i))=isL vs ps ts t w c:=by rw [hic];rfl
   rw [eis] at m1
   have hil:(isL vs ps ts t w c).length=n:=by rw [isL_len,hn]
   have hkl:=qc7 t.flat t.flat.length 0
   have hfl:=t.flat_len
   show T5 Ops.std _ _ _ _ _ _ _ _ _ _ _ _ _ p0 p1 p2 p3 p4 p5 p6 _ some _=_
   unfold T5
   simp only [qah,qan,qa4,qaa]
   rw [if_neg (by omega),List.take_of_length_le (by omega),m1,ob_s]
   simp only [hil]
   rw [if_neg (by simp)]
   exact fw_l2 p0 p1 p2 p3 p4 p5 p6 h60 w hw1 hw2 rows n hn i c hic hc D hnx n 0 m _ (by omega) (by omega) (by rw [mtL_len,hn]) (fun j hj=>by rw [if_neg (by omega)])
 | r+1,k,m+1,hk,hr=>by
   have ih:=fw_l1 i c hic hc D hnx r (k+1) m (by omega) (by omega)
   have hpl:=qbm (allV vs ps ts w) t
   have hcl:=qf3 vs ps ts t w i
   have e:(colW18 vs ps ts t w i).take (k+1)=(colW18 vs ps ts t w i).take k++[(colW18 vs ps ts t w i).getD k false]:=by
    rw [List.take_succ_eq_append_getElem (by omega),List.getD_eq_getElem?_getD,List.getElem?_eq_getElem (by omega)];rfl
   rw [e] at ih
   show T5 Ops.std _ _ _ _ _ _ _ _ _ _ _ _ _ p0 p1 p2 p3 p4 p5 p6 _ some _=_
   unfold T5
   simp only [qah,qak,qas,qaa,qac,hrows,hpl,allW18_len vs ps ts t w k (by omega),allW18_get vs ps ts t w k i (by omega) (by omega),mt,List.length_cons,List.length_nil,List.length_take,hcl,show IntKind.wrap IntKind.i64 ((k:Int)+1)=((k+1:Nat):Int) from qag (by omega)]
   rw [if_pos (by omega),if_pos (by omega),if_pos (by omega),if_pos (by omega),←hrows]
   exact ih
include ht hi h60 hn hw1 hw2 hw0 hrows in
theorem fw_l0:∀ (r c m:Nat),c+r=w.2.length→400+400*r<m→fwR p0 p1 p2 p3 p4 p5 p6 m (.l0 t.flat (n:Int) ((w.1.length+c:Nat):Int) w.1 w.2 rows (mtL vs ps ts t w c))=some true
 | r,c,0,hc,hm=>by omega
 | 0,c,m+1,hc,hm=>by
   have hkl:=qc7 t.flat t.flat.length 0
   have hfl:=t.flat_len
   have hml:(mtL vs ps ts t w c).length=n:=by rw [mtL_len,hn]
   have hw':IntKind.wrap IntKind.i64 ((w.1.length:Int)+(w.2.length:Int))=((w.1.length+w.2.length:Nat):Int):=by rw [wrap64 (by omega) (by omega)];omega
   show T5 Ops.std _ _ _ _ _ _ _ _ _ _ _ _ _ p0 p1 p2 p3 p4 p5 p6 _ some _=_
   unfold T5
   simp only [qah,qaa,hw',hml]
   rw [if_neg (by omega)]
   obtain rfl:c=w.2.length:=by omega
   exact fw_l3 p0 p1 p2 p3 p4 p5 p6 h60 n hn _ hml (fun j hj=>mtL_all vs ps ts t w ht hw0 j (by omega)) n 0 m (by omega) (by omega)
 | r+1,c,m+1,hc,hm=>by
   have ih:=fun m hm=>fw_l0 r (c+1) m (by omega) hm
   have hpl:=qbm (allV vs ps ts w) t
   have hw':IntKind.wrap IntKind.i64 ((w.1.length:Int)+(w.2.length:Int))=((w.1.length+w.2.length:Nat):Int):=by rw [wrap64 (by omega) (by omega)];omega
   show T5 Ops.std _ _ _ _ _ _ _ _ _ _ _ _ _ p0 p1 p2 p3 p4 p5 p6 _ some _=_
   unfold T5
   simp only [qah,qaa,hw']
   rw [if_pos (by omega),hrows,hpl,←hrows]
   exact fw_l1 p0 p1 p2 p3 p4 p5 p6 ht hi h60 w hw1 hw2 rows hrows n hn (w.1.length+c) c rfl (by omega) (400+400*r) ih t.size 0 m (by omega) (by omega)
end
theorem plainFairWords (p0:List Int) (p1:Bool) (p2 p3:Int) (p4:List (List Int)) (p5 p6:List Int) (w0:Ty.wf ty22 p0) (w1:True) (w2:Ty.wf ty3 p2) (w3:Ty.wf ty3 p3) (w4:Ty.wf ty33 p4) (w5:Ty.wf ty22 p5) (w6:Ty.wf ty22 p6):M5 p0 p1 p2 p3 p4 p5 p6=some true:=by
 show T5 Ops.std M12 M13 M16 M15 M14 M17 M18 M19 M20 M21 M22 M23 M24 p0 p1 p2 p3 p4 p5 p6 (fwR p0 p1 p2 p3 p4 p5 p6 1000000) some none=_
 unfold T5
 obtain ⟨s,hs,_⟩:=formula_ok p0
 obtain ⟨f,hf,hf2⟩:=of_ok18 s
 obtain ⟨a,b,ha,hb,ha2,hb2⟩:=nf_okR hf2
 obtain ⟨vs,ps,ts,hm,hsm⟩:=Model_ok p2 p3 p4
 rw [known18,ob_s,hm,ob_s,hs]
 simp only [Bool.not_true,cond_false,ob_s,hf,ha,hb,qan,qaa]
 have key:∀ c:List Prt,(c=[]∨∃ u,WF u∧isT u=true∧u.size≤60∧c=u.flat)→
   (if (c.length:Int)=0 then some true else ob (M18 vs ps ts) fun y=>cond (!y) (some true) (ob (M19 vs ps ts c) fun y=>cond (!y) (some true) (fwR p0 p1 p2 p3 p4 p5 p6 1000000 (.l1009 vs ps ts c))))=some true:=fun c hc=>by
  rcases hc with rfl | ⟨t,ht,hi,h60,rfl⟩
  ·rw [if_pos (by simp)]
  ·have hfl:=t.flat_len
   have hs1:=t.size_pos
   rw [if_neg (by omega)]
   obtain ⟨r,hr,hgood⟩:=qdn (vs:=vs) (ps:=ps) (ts:=ts) hsm
   rw [hr,ob_s]
   cases r with
   | false=>rfl
   | true=>
     simp only [Bool.not_true,cond_false]
     rw [qf2 ts hsm.g t.flat (by omega) (wf_atm ht) (qdi ht h60),ob_s]
     cases hk:knA vs ps ts t.flat with
     | false=>rfl
     | true=>
       simp only [Bool.not_true,cond_false]
       obtain ⟨w,hw,hok⟩:=Word_ok (ts:=ts) (hgood rfl) p5 p6
       obtain ⟨w1,w2,w3,w4,w5⟩:=id hok
       have hkl:=qc7 t.flat t.flat.length 0
       show T5 Ops.std _ _ _ _ _ _ _ _ _ _ _ _ _ p0 p1 p2 p3 p4 p5 p6 (fwR p0 p1 p2 p3 p4 p5 p6 999999) some _=_
       unfold T5
       simp only [hw,ob_s,All_ok ts hr (hgood rfl) hsm.g t ht h60 hk w hok,qff t.flat (by omega) true (by rw [T_IsP ht h60,hi]),if_true,qan,qay,qas,qaa,qac]
       have hlim:decide ((duF t.flat 0 t.flat.length).length*1≤140737488355328)=true:=decide_eq_true (by omega)
       rw [if_pos (by omega),hlim,cond_true]
       have ez:=mtL_zero vs ps ts t w
       rw [show Ty.bool.dflt=false from rfl,←ez]
       exact fw_l0 p0 p1 p2 p3 p4 p5 p6 ht hi h60 w w1 w3 w2 _ rfl _ rfl w.2.length 0 999999 (by omega) (by omega)
 cases p1 with
 | true=>exact key b hb2
 | false=>exact key a ha2
end Go.Proofs.YtfdlgmbbflmbgaaDoor.Av
