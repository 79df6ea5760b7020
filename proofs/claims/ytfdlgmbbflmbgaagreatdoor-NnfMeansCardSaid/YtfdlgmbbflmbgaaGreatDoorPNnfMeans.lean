/- The plain law of NnfMeans: what its twin computes answers true. Conditions: none. -/
import Derived.Test.YtfdlgmbbflmbgaaGreatDoorPNnfMeansa
set_option maxRecDepth 100000
namespace Go.Proofs.YtfdlgmbbflmbgaaGreatDoor.Av
open Go
def shortE (f:List Trm):Prop:=f.length≤30∧∀ t∈f,t.2.2.1.length≤8∧t.2.2.2.length≤8
theorem qb6:shortE []:=⟨by simp,fun t h=>by cases h⟩
theorem shortE.of {f:List Trm} (h:rightE f=true):shortE f:=qb0 h
theorem shortE.small {f:List Trm} (h:shortE f):smallE f:=⟨by have:=h.1;omega,fun t ht=>by have:=h.2 t ht;omega⟩
theorem shortE.right {f:List Trm} (h:shortE f):M54 f=some (rightE f):=qfi f h.small (by have:=h.1;omega)
theorem parse7_ok (s:List UInt8):∃ e x f,M69 s=some (e,x,f)∧shortE f∧(e=0→rightE f=true):=by
 show ∃ e x f,T69 Ops.std M43 M87 s some=some (e,x,f)∧_
 unfold T69
 rw [lex_ref,ob_s]
 rcases hl:lexS s with ⟨e,x,l⟩
 simp only [qap,qal,qba,qab,mt]
 by_cases he:e=0
 ·subst he
  obtain ⟨h1,h2,h3⟩:=lexS_ok hl
  rw [if_neg (by simp)]
  have hln:=toks_len h1
  obtain ⟨k,e2,y,t1,t2,t3⟩:=take_ok h1 (by omega) 0 hln
  have t1':M87 l 0=some ((k:Int),e2,y):=t1
  rw [t1',ob_s]
  dsimp only
  rcases t3 with ⟨rfl,_,hr,_⟩ | ⟨rfl,rfl⟩ | ⟨rfl,rfl,_⟩
  ·rw [if_neg (by simp),if_pos (by omega)]
   split
   ·rw [if_pos (by omega)]
    exact ⟨_,_,_,rfl,qb6,fun h=>by cases h⟩
   ·exact ⟨_,_,_,rfl,shortE.of hr,fun _=>hr⟩
  ·rw [if_pos (by decide),if_pos (by omega)]
   exact ⟨_,_,_,rfl,qb6,fun h=>by cases h⟩
  ·rw [if_pos (by decide),if_pos (by omega)]
   exact ⟨_,_,_,rfl,qb6,fun h=>by cases h⟩
 ·rw [if_pos he]
  exact ⟨_,_,_,rfl,qb6,fun h=>absurd h he⟩
abbrev Eff:=List UInt8×List Trm
def okEf (x:Eff):Prop:=x.1.length≤8∧rightE x.2=true
theorem qd7 (p:List (List UInt8)) (hp:p.length≤100000):∀ (t i n:Nat) (out:List Eff),i+t=p.length→t<n→out.length≤i→(∀ x∈out,okEf x)→
  ∃ b o,R70 M43 M87 p n (.l0 i out)=some (b,o)∧o.length≤p.length∧∀ x∈o,okEf x
 | t,i,0,out,hi,hn,ho,hk=>by omega
 | 0,i,n+1,out,hi,hn,ho,hk=>by
   show ∃ b o,T70 Ops.std _ _ p _ some _=some (b,o)∧_
   unfold T70
   simp only [qaj,qab]
   rw [if_neg (by omega)]
   exact ⟨_,_,rfl,by omega,hk⟩
 | t+1,i,n+1,out,hi,hn,ho,hk=>by
   have ih:=qd7 p hp t (i+1) n
   have bad:∃ b o,(some ((false,([]:List Eff))):Option (Bool×List Eff))=some (b,o)∧o.length≤p.length∧∀ x∈o,okEf x:=⟨_,_,rfl,by simp,fun x h=>by cases h⟩
   show ∃ b o,T70 Ops.std _ _ p _ some _=some (b,o)∧_
   unfold T70
   have hw:IntKind.wrap IntKind.i64 ((i:Int)+1)=((i+1:Nat):Int):=qag (by omega)
   simp only [qaj,qal,qau,qap,qba,qab,qaf,mt,List.length_cons,List.length_nil,hw]
   rw [if_pos (by omega),if_pos (by omega),lex_ref,ob_s]
   rcases hl:lexS (p.getD i (Ty.dflt ty9)) with ⟨e,x,l⟩
   dsimp only
   by_cases he:e=0
   ·subst he
    obtain ⟨h1,h2,h3⟩:=lexS_ok hl
    rw [if_neg (by simp)]
    by_cases h3l:(l.length:Int)<3
    ·rw [if_pos h3l];exact bad
    ·rw [if_neg h3l,if_pos (by omega)]
     by_cases hk0:(l.getD (Int.toNat 0) (Ty.dflt ty106)).1=2
     ·rw [if_neg (fun h=>h hk0),if_pos (by omega)]
      by_cases hk1:(l.getD (Int.toNat 1) (Ty.dflt ty106)).1=4
      ·rw [if_neg (fun h=>h hk1),if_pos (by omega)]
       cases !(l.getD (Int.toNat 1) (Ty.dflt ty106)).2.1 == ([61]:List UInt8) with
       | true=>simp only [cond_true];exact bad
       | false=>
         simp only [cond_false]
         obtain ⟨k,e2,y,t1,t2,t3⟩:=take_ok h1 (by omega) 2 (by omega)
         have t1':M87 l 2=some ((k:Int),e2,y):=t1
         rw [t1',ob_s]
         dsimp only
         rcases t3 with ⟨rfl,_,hr,_⟩ | ⟨rfl,rfl⟩ | ⟨rfl,rfl,_⟩
         ·rw [if_neg (by simp),if_pos (by omega)]
          split
          ·exact bad
          ·rw [if_pos (by omega),if_pos (by omega)]
           refine ih _ (by omega) (by omega) (by simp;omega) fun z hz=>?_
           rcases List.mem_append.1 hz with hz | hz
           ·exact hk z hz
           ·simp only [List.mem_singleton] at hz
            rw [hz]
            refine ⟨?_,hr⟩
            have:=(toks_at h1 (i:=0) (by omega) (Ty.dflt ty106)).2.1.2 hk0
            exact qeg this
         ·rw [if_pos (by decide)];exact bad
         ·rw [if_pos (by decide)];exact bad
      ·rw [if_pos hk1];exact bad
     ·rw [if_pos hk0];exact bad
   ·rw [if_pos he];exact bad
theorem effects_ok (p:List (List UInt8)) (hp:p.length≤100000):∃ b o,M70 p=some (b,o)∧o.length≤p.length∧∀ x∈o,okEf x:=by
 show ∃ b o,T70 Ops.std M43 M87 p (R70 M43 M87 p 1000000) some none=some (b,o)∧_
 unfold T70
 exact qd7 p hp p.length 0 1000000 [] (by omega) (by omega) (by simp) (fun x h=>by cases h)
def pB:Nat→Nat
 | 0=>20
 | i+1=>2*pB i+20
theorem pB_le:∀ i,i≤30→pB i≤43000000000:=by decide
theorem pB_ge:∀ i,20≤pB i
 | 0=>by simp [pB]
 | i+1=>by have:=pB_ge i;simp only [pB];omega
theorem qcs (s:List UInt8) (a b:Int) (hs:s.length≤100000000000):∃ r,M85 s a b=some r∧r.length≤s.length+2:=by
 show ∃ r,T85 Ops.std s a b some=some r∧_
 unfold T85
 simp only [qaj,qau,qab,List.length_append,List.length_cons,List.length_nil]
 by_cases h:a<b
 ·rw [if_pos h,if_pos (by omega),if_pos (by omega)];exact ⟨_,rfl,by simp⟩
 ·rw [if_neg h];exact ⟨s,rfl,by omega⟩
theorem may_num {t:Trm} (h:mayT t=true) (h1:t.1=1):0≤t.2.1∧t.2.1≤999:=by
 unfold mayT at h
 simp [h1] at h
 omega
theorem rightE_may {e:List Trm} (h:rightE e=true):∀ t∈e,mayT t=true:=by
 unfold rightE fin30 at h
 cases hg:eGo e 0 with
 | none=>rw [hg] at h;cases h
 | some d=>exact eGo_may e 0 d hg
abbrev Sd:=List UInt8×Int
noncomputable abbrev prR (e:List Trm):=R63 M54 M84 M79 M72 M85 e
def okS (L:Nat) (st:List Sd):Prop:=∀ x∈st,x.1.length≤L
theorem okS.mono {L L':Nat} {st:List Sd} (h:okS L st) (hl:L≤L'):okS L' st:=fun x hx=>Nat.le_trans (h x hx) hl
theorem okS.app {L:Nat} {st:List Sd} {x:Sd} (h:okS L st) (hx:x.1.length≤L):okS L (st++[x]):=fun y hy=>by
 rcases List.mem_append.1 hy with hy | hy
 ·exact h y hy
 ·simp only [List.mem_singleton] at hy;rw [hy];exact hx
theorem okS.take {L:Nat} {st:List Sd} (h:okS L st) (k:Nat):okS L (st.take k):=fun y hy=>h y (List.mem_of_mem_take hy)
theorem okS.get {L:Nat} {st:List Sd} (h:okS L st) (k:Nat) (hk:k<st.length) (d:Sd):(st.getD k d).1.length≤L:=by
 rw [List.getD_eq_getElem?_getD,List.getElem?_eq_getElem hk];exact h _ (List.getElem_mem hk)
def sgnL:List (List UInt8):=[[],[],[],[],[33],[45],[42],[43],[45],[60],[60,61],[62],[62,61],[61,61],[33,61],[38,38],[124,124]]
theorem sgnL_len (k:Nat):(sgnL.getD k []).length≤2:=qa0 (n:=2) rfl k
theorem qfp (e:List Trm) (he:rightE e=true):∀ (t i n:Nat) (st:List Sd),i+t=e.length→t<n→st.length≤i→okS (pB i) st→∃ s,prR e n (.l0 i st)=some s∧s.length≤43000000000
 | t,i,0,st,hi,hn,ho,hk=>by omega
 | 0,i,n+1,st,hi,hn,ho,hk=>by
   have hsh:=shortE.of he
   have hB:=pB_le i (by have:=hsh.1;omega)
   show ∃ s,T63 Ops.std _ _ _ _ _ e _ some _=some s∧_
   unfold T63
   simp only [qaj,qal,qap,qab]
   rw [if_neg (by omega)]
   by_cases h0:((st.length:Nat):Int)=0
   ·rw [if_pos h0];exact ⟨_,rfl,by simp⟩
   ·rw [if_neg h0,if_pos (by omega)]
    exact ⟨_,rfl,by have:=hk.get 0 (by omega) (Ty.dflt ty149);exact Nat.le_trans this hB⟩
 | t+1,i,n+1,st,hi,hn,ho,hk=>by
   have ih:=qfp e he t (i+1) n
   have hsh:=shortE.of he
   have h30:=hsh.1
   have hB:=pB_le i (by omega)
   have hG:=pB_ge i
   have hB1:pB (i+1)=2*pB i+20:=rfl
   obtain ⟨x,hx⟩:∃ x,e.getD i (Ty.dflt ty118)=x:=⟨_,rfl⟩
   have hm:x∈e:=by
    rw [←hx,List.getD_eq_getElem?_getD,List.getElem?_eq_getElem (by omega)];exact List.getElem_mem _
   have hmay:=rightE_may he _ hm
   have hnm:=hsh.2 _ hm
   have hop:=mayT_op hmay
   show ∃ s,T63 Ops.std _ _ _ _ _ e _ some _=some s∧_
   unfold T63
   have hw:IntKind.wrap IntKind.i64 ((i:Int)+1)=((i+1:Nat):Int):=qag (by omega)
   obtain ⟨v,hv⟩:=qde x.1
   simp only [qaj,qal,qau,qap,qab,qaf,hx,hw,hv,opE_ref,ob_s,mt,List.length_cons,List.length_nil]
   rw [if_pos (by omega),if_pos (by omega)]
   by_cases o0:opE x.1=0
   ·rw [if_pos o0]
    by_cases h1:x.1=1
    ·obtain ⟨q1,q2⟩:=may_num hmay h1
     obtain ⟨s,d1,d2⟩:=qdu x.2.1.toNat (by omega)
     rw [Int.toNat_of_nonneg q1] at d1
     rw [if_pos h1,d1,ob_s,if_pos (by omega)]
     exact ih _ (by omega) (by omega) (by simp;omega) ((hk.mono (by omega)).app (by show s.length≤_;omega))
    ·rw [if_neg h1]
     by_cases h2:x.1=2
     ·rw [if_pos h2,if_pos (by omega)]
      exact ih _ (by omega) (by omega) (by simp;omega) ((hk.mono (by omega)).app (by show x.2.2.1.length≤_;omega))
     ·rw [if_neg h2]
      simp only [List.length_append,List.length_cons,List.length_nil]
      rw [if_pos (by omega),if_pos (by omega),if_pos (by omega)]
      exact ih _ (by omega) (by omega) (by simp;omega) ((hk.mono (by omega)).app (by show (x.2.2.1++([64]:List UInt8)++x.2.2.2).length≤_;simp;omega))
   ·rw [if_neg o0]
    have hop17:0≤x.1∧x.1<17:=by unfold opE at hop;split at hop<;>omega
    have hsl:(([[],[],[],[],[33],[45],[42],[43],[45],[60],[60,61],[62],[62,61],[61,61],[33,61],[38,38],[124,124]]:List (List UInt8)).getD (Int.toNat x.1) []).length≤2:=sgnL_len (Int.toNat x.1)
    by_cases o1:opE x.1=1
    ·rw [if_pos o1]
     by_cases hl:((st.length:Nat):Int)<1
     ·rw [if_pos hl];exact ⟨_,rfl,by simp⟩
     ·have hw1:IntKind.wrap IntKind.i64 ((st.length:Int)-1)=((st.length-1:Nat):Int):=by rw [wrap64 (by omega) (by omega)];omega
      rw [if_neg hl]
      simp only [hw1,qaf]
      have hg:=hk.get (st.length-1) (by omega) (Ty.dflt ty149)
      obtain ⟨r,r1,r2⟩:=qcs (st.getD (st.length-1) (Ty.dflt ty149)).1 (st.getD (st.length-1) (Ty.dflt ty149)).2 v (by omega)
      rw [if_pos (by omega),if_pos (by omega),r1,ob_s]
      generalize ([[],[],[],[],[33],[45],[42],[43],[45],[60],[60,61],[62],[62,61],[61,61],[33,61],[38,38],[124,124]]:List (List UInt8)).getD (Int.toNat x.1) []=sg at hsl ⊢
      rw [if_pos (by omega),if_pos (by omega),if_pos (by simp;omega)]
      exact ih _ (by omega) (by omega) (by simp;omega) (((hk.mono (by omega)).take _).app (by show (sg++r).length≤_;simp;omega))
    ·rw [if_neg o1]
     by_cases hl:((st.length:Nat):Int)<2
     ·rw [if_pos hl];exact ⟨_,rfl,by simp⟩
     ·have hw1:IntKind.wrap IntKind.i64 ((st.length:Int)-1)=((st.length-1:Nat):Int):=by rw [wrap64 (by omega) (by omega)];omega
      have hw2:IntKind.wrap IntKind.i64 ((st.length:Int)-2)=((st.length-2:Nat):Int):=by rw [wrap64 (by omega) (by omega)];omega
      rw [if_neg hl]
      simp only [hw1,hw2,qaf]
      have hg1:=hk.get (st.length-1) (by omega) (Ty.dflt ty149)
      have hg2:=hk.get (st.length-2) (by omega) (Ty.dflt ty149)
      generalize ([[],[],[],[],[33],[45],[42],[43],[45],[60],[60,61],[62],[62,61],[61,61],[33,61],[38,38],[124,124]]:List (List UInt8)).getD (Int.toNat x.1) []=sg at hsl ⊢
      by_cases h3:v=3
      ·rw [if_pos h3]
       obtain ⟨a,a1,a2⟩:=qcs (st.getD (st.length-2) (Ty.dflt ty149)).1 (st.getD (st.length-2) (Ty.dflt ty149)).2 4 (by omega)
       obtain ⟨c,c1,c2⟩:=qcs (st.getD (st.length-1) (Ty.dflt ty149)).1 (st.getD (st.length-1) (Ty.dflt ty149)).2 (IntKind.wrap IntKind.i64 (v+1)) (by omega)
       simp only [a1,c1,ob_s,List.length_append]
       rw [if_pos (by omega),if_pos (by omega),if_pos (by omega),if_pos (by omega),if_pos (by omega),if_pos (by omega),if_pos (by simp;omega)]
       exact ih _ (by omega) (by omega) (by simp;omega) (((hk.mono (by omega)).take _).app (by show (a++sg++c).length≤_;simp;omega))
      ·rw [if_neg h3]
       obtain ⟨a,a1,a2⟩:=qcs (st.getD (st.length-2) (Ty.dflt ty149)).1 (st.getD (st.length-2) (Ty.dflt ty149)).2 v (by omega)
       obtain ⟨c,c1,c2⟩:=qcs (st.getD (st.length-1) (Ty.dflt ty149)).1 (st.getD (st.length-1) (Ty.dflt ty149)).2 (IntKind.wrap IntKind.i64 (v+1)) (by omega)
       simp only [a1,c1,ob_s,List.length_append]
       rw [if_pos (by omega),if_pos (by omega),if_pos (by omega),if_pos (by omega),if_pos (by omega),if_pos (by omega),if_pos (by simp;omega)]
       exact ih _ (by omega) (by omega) (by simp;omega) (((hk.mono (by omega)).take _).app (by show (a++sg++c).length≤_;simp;omega))
theorem print_ok (e:List Trm) (h:shortE e) (hr:rightE e=true):∃ s,M63 e=some s∧s.length≤43000000000:=by
 show ∃ s,T63 Ops.std M54 M84 M79 M72 M85 e (prR e 1000000) some none=some s∧_
 unfold T63
 rw [h.right,ob_s,hr]
 simp only [Bool.not_true,cond_false]
 exact qfp e hr e.length 0 1000000 [] (by omega) (by have:=h.1;omega) (by simp) (fun x h=>by cases h)
theorem okEf.short {x:Eff} (h:okEf x):shortE x.2:=shortE.of h.2
theorem reff_loop (l:List Eff) (hl:l.length≤100000) (hk:∀ x∈l,okEf x):∀ (t i n:Nat),i+t=l.length→t<n→∃ b,R88 M20 M54 l n (.l0 i)=some b∧(b=true→l.length≤3)
 | t,i,0,hi,hn=>by omega
 | 0,i,n+1,hi,hn=>by
   show ∃ b,T88 Ops.std _ _ l _ some _=some b∧_
   unfold T88
   simp only [qaj,qax,qab]
   rw [if_neg (by omega)]
   exact ⟨_,rfl,fun h=>by simp at h;omega⟩
 | t+1,i,n+1,hi,hn=>by
   have ih:=reff_loop l hl hk t (i+1) n
   show ∃ b,T88 Ops.std _ _ l _ some _=some b∧_
   unfold T88
   have hw:IntKind.wrap IntKind.i64 ((i:Int)+1)=((i+1:Nat):Int):=qag (by omega)
   have hm:l.getD i (Ty.dflt ty116)∈l:=by
    rw [List.getD_eq_getElem?_getD,List.getElem?_eq_getElem (by omega)];exact List.getElem_mem _
   have hx:=hk _ hm
   simp only [qaj,qal,qab,qaf,hw]
   rw [if_pos (by omega),if_pos (by omega),qbg _ (by have:=hx.1;omega),ob_s]
   cases isWordP (l.getD i (Ty.dflt ty116)).1 with
   | false=>exact ⟨false,rfl,fun h=>by cases h⟩
   | true=>
     simp only [Bool.not_true,cond_false]
     rw [if_pos (by omega),hx.short.right,ob_s,hx.2]
     simp only [Bool.not_true,cond_false]
     exact ih (by omega) (by omega)
theorem reff_ok (l:List Eff) (hl:l.length≤100000) (hk:∀ x∈l,okEf x):∃ b,M88 l=some b∧(b=true→l.length≤3):=by
 show ∃ b,T88 Ops.std M20 M54 l (R88 M20 M54 l 1000000) some none=some b∧_
 unfold T88
 exact reff_loop l hl hk l.length 0 1000000 (by omega) (by omega)
theorem peff_loop (l:List Eff) (h3:l.length≤3) (hk:∀ x∈l,okEf x):∀ (t i n:Nat) (s:List UInt8),i+t=l.length→t<n→s.length≤i*43000000100→∃ r,R89 M63 l n (.l0 s i)=some r∧r.length≤130000000000
 | t,i,0,s,hi,hn,hs=>by omega
 | 0,i,n+1,s,hi,hn,hs=>by
   show ∃ r,T89 Ops.std _ l _ some _=some r∧_
   unfold T89
   simp only [qaj,qab]
   rw [if_neg (by omega)]
   exact ⟨_,rfl,by omega⟩
 | t+1,i,n+1,s,hi,hn,hs=>by
   have ih:=peff_loop l h3 hk t (i+1) n
   show ∃ r,T89 Ops.std _ l _ some _=some r∧_
   unfold T89
   have hw:IntKind.wrap IntKind.i64 ((i:Int)+1)=((i+1:Nat):Int):=qag (by omega)
   have hm:l.getD i (Ty.dflt ty116)∈l:=by
    rw [List.getD_eq_getElem?_getD,List.getElem?_eq_getElem (by omega)];exact List.getElem_mem _
   have hx:=hk _ hm
   have hx1:=hx.1
   obtain ⟨w,w1,w2⟩:=print_ok _ hx.short hx.2
   simp only [qaj,qal,qau,qab,qaf,hw,w1,ob_s,List.length_append,List.length_cons,List.length_nil]
   rw [if_pos (by omega),if_pos (by omega),if_pos (by omega),if_pos (by omega),if_pos (by omega),if_pos (by omega),if_pos (by omega)]
   exact ih _ (by omega) (by omega) (by simp only [List.length_append,List.length_cons,List.length_nil];omega)
theorem peff_ok (l:List Eff) (h3:l.length≤3) (hk:∀ x∈l,okEf x):∃ r,M89 l=some r∧r.length≤130000000000:=by
 show ∃ r,T89 Ops.std M63 l (R89 M63 l 1000000) some none=some r∧_
 unfold T89
 exact peff_loop l h3 hk l.length 0 1000000 [] (by omega) (by omega) (by simp)
theorem printTrans_ok (id:Int) (a b c d:List UInt8) (g:List Trm) (ef:List Eff) (ha:a.length≤60000) (hb:b.length≤60000) (hc:c.length≤60000) (hd:d.length≤60000) (hg:shortE g) (hl:ef.length≤100000) (hk:∀ x∈ef,okEf x) :
  ∃ s,M71 id a b c d g ef=some s:=by
 show ∃ s,T71 Ops.std M50 M51 M20 M54 M88 M72 M63 M89 id a b c d g ef some=some s
 unfold T71
 obtain ⟨ch,ok,h1⟩:=qdv d (by omega)
 rw [h1,ob_s,id_ok,ob_s,qbg a (by omega),qbg b (by omega),qbg c (by omega),hg.right]
 simp only [ob_s]
 by_cases hid:1≤id∧id≤999
 ·rw [decide_eq_true hid]
  simp only [Bool.not_true,cond_false]
  cases ok with
  | false=>exact ⟨_,rfl⟩
  | true=>
  cases isWordP a with
  | false=>exact ⟨_,rfl⟩
  | true=>
  cases isWordP b with
  | false=>exact ⟨_,rfl⟩
  | true=>
  cases isWordP c with
  | false=>exact ⟨_,rfl⟩
  | true=>
  cases hr:rightE g with
  | false=>exact ⟨_,rfl⟩
  | true=>
  obtain ⟨bb,e1,e2⟩:=reff_ok ef hl hk
  simp only [Bool.not_true,cond_false,e1,ob_s]
  cases hbb:bb with
  | false=>exact ⟨_,rfl⟩
  | true=>
  obtain ⟨w,w1,w2⟩:=qdu id.toNat (by omega)
  rw [Int.toNat_of_nonneg (by omega)] at w1
  obtain ⟨u,u1,u2⟩:=print_ok g hg hr
  obtain ⟨z,z1,z2⟩:=peff_ok ef (e2 hbb) hk
  simp only [Bool.not_true,cond_false,w1,u1,z1,ob_s,qau,qab,List.length_append,List.length_cons,List.length_nil]
  cases d == mt UInt8 with
  | true=>
    simp only [cond_true]
    rw [if_pos (by omega),if_pos (by omega),if_pos (by omega),if_pos (by omega),if_pos (by omega),if_pos (by omega),if_pos (by omega),if_pos (by omega),if_pos (by omega),if_pos (by omega),if_pos (by omega)]
    exact ⟨_,rfl⟩
  | false=>
    simp only [cond_false]
    rw [if_pos (by omega),if_pos (by omega),if_pos (by omega),if_pos (by omega),if_pos (by omega),if_pos (by omega),if_pos (by omega),if_pos (by omega),if_pos (by omega),if_pos (by omega),if_pos (by omega)]
    exact ⟨_,rfl⟩
 ·rw [decide_eq_false hid]
  exact ⟨_,rfl⟩
abbrev Trn:=Int×List UInt8×List UInt8×List UInt8×List UInt8×List Trm×List Eff
def okTr (t:Trn):Prop:=t.2.1.length≤60000∧t.2.2.1.length≤60000∧t.2.2.2.1.length≤60000∧t.2.2.2.2.1.length≤60000∧shortE t.2.2.2.2.2.1∧t.2.2.2.2.2.2.length≤100000∧∀ x∈t.2.2.2.2.2.2,okEf x
theorem parseTrans_ok (s:List UInt8) (hs:s.length≤60000):∃ id a b c d g ef ok,M38 s=some (id,a,b,c,d,g,ef,ok)∧okTr (id,a,b,c,d,g,ef):=by
 show ∃ id a b c d g ef ok,T38 Ops.std M36 M68 M50 M39 M35 M69 M70 M71 s some=some (id,a,b,c,d,g,ef,ok)∧_
 unfold T38
 have bad:∃ id a b c d g ef ok,(some ((0:Int),([]:List UInt8),([]:List UInt8),([]:List UInt8),([]:List UInt8),([]:List Trm),([]:List Eff),false))=some (id,a,b,c,d,g,ef,ok)∧okTr (id,a,b,c,d,g,ef):=
  ⟨_,_,_,_,_,_,_,_,rfl,by simp,by simp,by simp,by simp,qb6,by simp,fun x h=>by cases h⟩
 obtain ⟨w,w1,w2,w3⟩:=words_ok s hs
 rw [w1,ob_s]
 simp only [qaj,qal,qap,qba,qab,mt]
 by_cases h6:((w.length:Nat):Int)<6
 ·rw [if_pos h6];exact bad
 ·rw [if_neg h6,if_pos (by omega)]
  obtain ⟨n,ok,a1⟩:=qdg (w.getD (Int.toNat 0) (Ty.dflt ty9)) false
  rw [a1,ob_s,if_pos (by omega),if_pos (by omega),if_pos (by omega),if_pos (by omega)]
  have g1:=w3.get (Int.toNat 1)
  have g2:=w3.get (Int.toNat 2)
  have g3:=w3.get (Int.toNat 3)
  have g4:=w3.get (Int.toNat 4)
  obtain ⟨r,r1,r2⟩:=skip_ok s hs 5 (by omega)
  have r1':M39 s 5=some r:=r1
  obtain ⟨l,l1,l2,l3,l4⟩:=cut_ok r (by omega) 59
  obtain ⟨e,x,g,p1,p2,p3⟩:=parse7_ok (l.getD (Int.toNat 0) (Ty.dflt ty9))
  obtain ⟨fine,ef,f1,f2,f3⟩:=effects_ok (List.drop (Int.toNat 1) (List.take l.length l)) (by simp;omega)
  have fin:∀ d:List UInt8,d.length≤60000→∃ s',M71 n (w.getD (Int.toNat 1) (Ty.dflt ty9)) (w.getD (Int.toNat 2) (Ty.dflt ty9)) (w.getD (Int.toNat 3) (Ty.dflt ty9)) d g ef=some s':=fun d hd=>
   printTrans_ok n _ _ _ d g ef (Nat.le_trans g1 hs) (Nat.le_trans g2 hs) (Nat.le_trans g3 hs) hd p2 (by simp at f2;omega) f3
  have good:∀ d:List UInt8,d.length≤60000→okTr (n,w.getD (Int.toNat 1) (Ty.dflt ty9),w.getD (Int.toNat 2) (Ty.dflt ty9),w.getD (Int.toNat 3) (Ty.dflt ty9),d,g,ef):=fun d hd=>
   ⟨Nat.le_trans g1 hs,Nat.le_trans g2 hs,Nat.le_trans g3 hs,hd,p2,by simp at f2;show ef.length≤100000;omega,f3⟩
  cases w.getD (Int.toNat 4) (Ty.dflt ty9) == ([45]:List UInt8) with
  | true=>
    simp only [cond_true]
    rw [r1',ob_s,l1,ob_s,if_pos (by omega),p1,ob_s,if_pos (by omega),f1,ob_s]
    dsimp only
    cases ok with
    | false=>exact bad
    | true=>
      simp only [Bool.not_true,cond_false]
      by_cases he:e=0
      ·rw [if_neg (fun h=>h he)]
       cases fine with
       | false=>exact bad
       | true=>
         simp only [Bool.not_true,cond_false]
         obtain ⟨s',q1⟩:=fin [] (by simp)
         rw [q1,ob_s]
         cases s' == ([]:List UInt8) with
         | true=>exact bad
         | false=>exact ⟨_,_,_,_,_,_,_,_,rfl,good [] (by simp)⟩
      ·rw [if_pos he];exact bad
  | false=>
    simp only [cond_false]
    obtain ⟨ch,cok,c1⟩:=qdv (w.getD (Int.toNat 4) (Ty.dflt ty9)) (by have:(w.getD (Int.toNat 4) (Ty.dflt ty9)).length≤s.length:=g4;omega)
    rw [c1,ob_s]
    dsimp only
    cases cok with
    | false=>exact bad
    | true=>
    simp only [Bool.not_true,cond_false]
    rw [r1',ob_s,l1,ob_s,if_pos (by omega),p1,ob_s,if_pos (by omega),f1,ob_s]
    dsimp only
    cases ok with
    | false=>exact bad
    | true=>
      simp only [Bool.not_true,cond_false]
      by_cases he:e=0
      ·rw [if_neg (fun h=>h he)]
       cases fine with
       | false=>exact bad
       | true=>
         simp only [Bool.not_true,cond_false]
         obtain ⟨s',q1⟩:=fin (w.getD (Int.toNat 4) (Ty.dflt ty9)) (Nat.le_trans g4 hs)
         rw [q1,ob_s]
         cases s' == ([]:List UInt8) with
         | true=>exact bad
         | false=>exact ⟨_,_,_,_,_,_,_,_,rfl,good _ (Nat.le_trans g4 hs)⟩
      ·rw [if_pos he];exact bad
abbrev Vrb:=List UInt8×Int×Int×Int
abbrev Pcs:=List UInt8×List (List UInt8)
section
variable (vs:List Vrb) (ps:List Pcs) (ts:List Trn)
theorem qd8 (hp:ps.length≤100000) (s:List UInt8):∀ (t i n:Nat),i+t=ps.length→t<n→∃ r,R49 vs ps ts s n (.l0 i)=some r∧(r = -1∨∃ k:Nat,k<ps.length∧r=(k:Int))
 | t,i,0,hi,hn=>by omega
 | 0,i,n+1,hi,hn=>by
   show ∃ r,T49 Ops.std vs ps ts s _ some _=some r∧_
   unfold T49
   simp only [qaj,qab]
   rw [if_neg (by omega)]
   exact ⟨_,rfl,.inl rfl⟩
 | t+1,i,n+1,hi,hn=>by
   have ih:=qd8 hp s t (i+1) n (by omega) (by omega)
   show ∃ r,T49 Ops.std vs ps ts s _ some _=some r∧_
   unfold T49
   simp only [qaj,qal,qab,qaf,show IntKind.wrap IntKind.i64 ((i:Int)+1)=((i+1:Nat):Int) from qag (by omega)]
   rw [if_pos (by omega),if_pos (by omega)]
   cases (ps.getD i (Ty.dflt ty65)).1 == s with
   | true=>exact ⟨_,rfl,.inr ⟨i,by omega,rfl⟩⟩
   | false=>exact ih
theorem qfq (hp:ps.length≤100000) (s:List UInt8):∃ r,M49 vs ps ts s=some r∧(r = -1∨∃ k:Nat,k<ps.length∧r=(k:Int)):=by
 show ∃ r,T49 Ops.std vs ps ts s (R49 vs ps ts s 1000000) some none=some r∧_
 unfold T49
 exact qd8 vs ps ts hp s ps.length 0 1000000 (by omega) (by omega)
theorem qdh (hv:vs.length≤100000) (s:List UInt8):∀ (t i n:Nat),i+t=vs.length→t<n→∃ r,R53 vs ps ts s n (.l0 i)=some r∧(r = -1∨∃ k:Nat,k<vs.length∧r=(k:Int))
 | t,i,0,hi,hn=>by omega
 | 0,i,n+1,hi,hn=>by
   show ∃ r,T53 Ops.std vs ps ts s _ some _=some r∧_
   unfold T53
   simp only [qaj,qab]
   rw [if_neg (by omega)]
   exact ⟨_,rfl,.inl rfl⟩
 | t+1,i,n+1,hi,hn=>by
   have ih:=qdh hv s t (i+1) n (by omega) (by omega)
   show ∃ r,T53 Ops.std vs ps ts s _ some _=some r∧_
   unfold T53
   simp only [qaj,qal,qab,qaf,show IntKind.wrap IntKind.i64 ((i:Int)+1)=((i+1:Nat):Int) from qag (by omega)]
   rw [if_pos (by omega),if_pos (by omega)]
   cases (vs.getD i (Ty.dflt ty61)).1 == s with
   | true=>exact ⟨_,rfl,.inr ⟨i,by omega,rfl⟩⟩
   | false=>exact ih
theorem qe6 (hv:vs.length≤100000) (s:List UInt8):∃ r,M53 vs ps ts s=some r∧(r = -1∨∃ k:Nat,k<vs.length∧r=(k:Int)):=by
 show ∃ r,T53 Ops.std vs ps ts s (R53 vs ps ts s 1000000) some none=some r∧_
 unfold T53
 exact qdh vs ps ts hv s vs.length 0 1000000 (by omega) (by omega)
def okLocs (ps:List Pcs):Prop:=∀ p∈ps,p.2.length≤100000
theorem okLocs.get {ps:List Pcs} (h:okLocs ps) (k:Nat) (hk:k<ps.length):(ps.getD k (Ty.dflt ty65)).2.length≤100000:=by
 rw [List.getD_eq_getElem?_getD,List.getElem?_eq_getElem hk];exact h _ (List.getElem_mem hk)
theorem qfr (hl:okLocs ps) (p:Nat) (hp:p<ps.length) (s:List UInt8):∀ (t i n:Nat),i+t=(ps.getD p (Ty.dflt ty65)).2.length→t<n→∃ r,R52 vs ps ts p s n (.l0 i)=some r∧(r = -1∨∃ k:Nat,k<(ps.getD p (Ty.dflt ty65)).2.length∧r=(k:Int))
 | t,i,0,hi,hn=>by omega
 | 0,i,n+1,hi,hn=>by
   show ∃ r,T52 Ops.std vs ps ts p s _ some _=some r∧_
   unfold T52
   simp only [qaj,qal,qab,qaf]
   rw [if_pos (by omega),if_neg (by omega)]
   exact ⟨_,rfl,.inl rfl⟩
 | t+1,i,n+1,hi,hn=>by
   have ih:=qfr hl p hp s t (i+1) n (by omega) (by omega)
   have hg:=hl.get p hp
   show ∃ r,T52 Ops.std vs ps ts p s _ some _=some r∧_
   unfold T52
   simp only [qaj,qal,qab,qaf,show IntKind.wrap IntKind.i64 ((i:Int)+1)=((i+1:Nat):Int) from qag (by omega)]
   rw [if_pos (by omega),if_pos (by omega),if_pos (by omega),if_pos (by omega)]
   generalize ((ps.getD p (Ty.dflt ty65)).2.getD i (Ty.dflt Ty.str) == s)=b
   cases b with
   | true=>exact ⟨_,rfl,.inr ⟨i,by omega,rfl⟩⟩
   | false=>exact ih
theorem place_ok (hl:okLocs ps) (p:Int) (hp:p = -1∨∃ k:Nat,k<ps.length∧p=(k:Int)) (s:List UInt8):∃ r,M52 vs ps ts p s=some r∧(0≤r→∃ q:Nat,q<ps.length∧p=(q:Int)):=by
 show ∃ r,T52 Ops.std vs ps ts p s (R52 vs ps ts p s 1000000) some none=some r∧_
 unfold T52
 simp only [qaj,qab]
 rcases hp with rfl | ⟨k,hk,rfl⟩
 ·rw [if_pos (by decide)];exact ⟨_,rfl,fun h=>by omega⟩
 ·rw [if_neg (by omega)]
  obtain ⟨r,h1,h2⟩:=qfr vs ps ts hl k hk s (ps.getD k (Ty.dflt ty65)).2.length 0 1000000 (by omega) (by have:=hl.get k hk;omega)
  exact ⟨r,h1,fun _=>⟨k,hk,rfl⟩⟩
structure smallG:Prop where
 v:vs.length≤100000
 p:ps.length≤100000
 l:okLocs ps
variable {vs ps}
def knE (vs:List Vrb) (ps:List Pcs) (ts:List Trn) (t:Trm):Prop:=
 (t.1=2→∃ k:Nat,k<vs.length∧M53 vs ps ts t.2.2.1=some (k:Int))∧
 (t.1=3→∃ (q:Nat) (r:Int),q<ps.length∧M49 vs ps ts t.2.2.1=some (q:Int)∧M52 vs ps ts (q:Int) t.2.2.2=some r)
theorem qfs (hg:smallG vs ps) (e:List Trm) (he:shortE e):∀ (t i n:Nat),i+t=e.length→t<n→(∀ x∈e.take i,knE vs ps ts x)→∃ b,R24 M53 M49 M52 M54 vs ps ts e n (.l0 i)=some b∧(b=true→rightE e=true∧∀ x∈e,knE vs ps ts x)
 | t,i,0,hi,hn,hk=>by omega
 | 0,i,n+1,hi,hn,hk=>by
   show ∃ b,T24 Ops.std _ _ _ _ vs ps ts e _ some _=some b∧_
   unfold T24
   simp only [qaj,qab]
   rw [if_neg (by omega),he.right,ob_s]
   refine ⟨_,rfl,fun h=>⟨h,?_⟩⟩
   rwa [List.take_of_length_le (by omega)] at hk
 | t+1,i,n+1,hi,hn,hk=>by
   have ih:=qfs hg e he t (i+1) n (by omega) (by omega)
   have h30:=he.1
   obtain ⟨x,hx⟩:∃ x,e.getD i (Ty.dflt ty118)=x:=⟨_,rfl⟩
   have htk:e.take (i+1)=e.take i++[x]:=by
    rw [List.take_succ_eq_append_getElem (by omega)]
    rw [List.getD_eq_getElem?_getD,List.getElem?_eq_getElem (by omega)] at hx
    rw [←hx];rfl
   have nxt:knE vs ps ts x→∀ y∈e.take (i+1),knE vs ps ts y:=fun h y hy=>by
    rw [htk] at hy
    rcases List.mem_append.1 hy with hy | hy
    ·exact hk y hy
    ·simp only [List.mem_singleton] at hy;rw [hy];exact h
   show ∃ b,T24 Ops.std _ _ _ _ vs ps ts e _ some _=some b∧_
   unfold T24
   simp only [qaj,qal,qap,qab,qaf,hx,show IntKind.wrap IntKind.i64 ((i:Int)+1)=((i+1:Nat):Int) from qag (by omega)]
   rw [if_pos (by omega),if_pos (by omega)]
   obtain ⟨r,r1,r2⟩:=qe6 vs ps ts hg.v x.2.2.1
   obtain ⟨q,q1,q2⟩:=qfq vs ps ts hg.p x.2.2.1
   obtain ⟨z,z1,z2⟩:=place_ok vs ps ts hg.l q q2 x.2.2.2
   by_cases h2:x.1=2
   ·rw [if_pos h2,if_pos (by omega),r1,ob_s]
    by_cases hr:r<0
    ·rw [if_pos hr];exact ⟨_,rfl,fun h=>by cases h⟩
    ·rw [if_neg hr,if_pos (by omega),if_neg (by omega)]
     refine ih (nxt ⟨fun _=>?_,fun h=>by omega⟩)
     rcases r2 with rfl | ⟨k,hk1,rfl⟩
     ·omega
     ·exact ⟨k,hk1,r1⟩
   ·rw [if_neg h2,if_pos (by omega)]
    by_cases h3:x.1=3
    ·rw [if_pos h3,if_pos (by omega),if_pos (by omega),q1,ob_s,z1,ob_s]
     by_cases hz:z<0
     ·rw [if_pos hz];exact ⟨_,rfl,fun h=>by cases h⟩
     ·rw [if_neg hz]
      obtain ⟨q',hq',rfl⟩:=z2 (by omega)
      exact ih (nxt ⟨fun h=>by omega,fun _=>⟨q',z,hq',q1,z1⟩⟩)
    ·rw [if_neg h3]
     exact ih (nxt ⟨fun h=>absurd h h2,fun h=>absurd h h3⟩)
theorem qej (hg:smallG vs ps) (e:List Trm) (he:shortE e):∃ b,M24 vs ps ts e=some b∧(b=true→rightE e=true∧∀ x∈e,knE vs ps ts x):=by
 show ∃ b,T24 Ops.std M53 M49 M52 M54 vs ps ts e (R24 M53 M49 M52 M54 vs ps ts e 1000000) some none=some b∧_
 unfold T24
 exact qfs ts hg e he e.length 0 1000000 (by omega) (by have:=he.1;omega) (fun x h=>by simp at h)
end
theorem qdw (l:List (List UInt8)) (hl:l.length≤6):∀ (f i j n:Nat),10*(l.length-i)+(l.length-j)+1≤f→f≤n→i≤l.length→j≤i→i<l.length→∃ b,R22 l n (.l1 i j)=some b
 | f,i,j,0,hf,hn,hi,hj,hil=>by omega
 | f,i,j,n+1,hf,hn,hi,hj,hil=>by
   show ∃ b,T22 Ops.std l _ some _=some b
   unfold T22
   simp only [qaj,qal,qab,qaf,show IntKind.wrap IntKind.i64 ((i:Int)+1)=((i+1:Nat):Int) from qag (by omega),show IntKind.wrap IntKind.i64 ((j:Int)+1)=((j+1:Nat):Int) from qag (by omega)]
   by_cases h:j<i
   ·rw [if_pos (by omega),if_pos (by omega),if_pos (by omega)]
    generalize (l.getD i (Ty.dflt ty9) == l.getD j (Ty.dflt ty9))=b
    cases b with
    | true=>exact ⟨_,rfl⟩
    | false=>exact qdw l hl (f-1) i (j+1) n (by omega) (by omega) hi (by omega) hil
   ·rw [if_neg (by omega)]
    obtain ⟨m,rfl⟩:∃ m,n=m+1:=⟨n-1,by omega⟩
    show ∃ b,T22 Ops.std l _ some _=some b
    unfold T22
    simp only [qaj,qab]
    by_cases h2:i+1<l.length
    ·rw [if_pos (by omega)]
     exact qdw l hl (f-2) (i+1) 0 m (by omega) (by omega) (by omega) (by omega) h2
    ·rw [if_neg (by omega)];exact ⟨_,rfl⟩
theorem twice_ok (l:List (List UInt8)) (hl:l.length≤6):∃ b,M22 l=some b:=by
 show ∃ b,T22 Ops.std l (R22 l 1000000) some none=some b
 unfold T22
 show ∃ b,T22 Ops.std l (R22 l 999999) some _=some b
 unfold T22
 simp only [qaj,qab]
 by_cases h:0<l.length
 ·rw [if_pos (by omega)]
  exact qdw l hl 100 0 0 999999 (by omega) (by omega) (by omega) (by omega) h
 ·rw [if_neg (by omega)];exact ⟨_,rfl⟩
theorem take_ext {α:Type} {P:α→Prop} {l:List α} {i:Nat} (hi:i<l.length) (d:α) (h:∀ x∈l.take i,P x) (hx:P (l.getD i d)):∀ x∈l.take (i+1),P x:=by
 intro x hm
 rw [List.take_succ_eq_append_getElem hi] at hm
 rcases List.mem_append.1 hm with hm | hm
 ·exact h x hm
 ·simp only [List.mem_singleton] at hm
  rw [hm]
  rw [List.getD_eq_getElem?_getD,List.getElem?_eq_getElem hi] at hx
  exact hx
theorem qbo {α:Type} {l:List α} {i:Nat} (hi:i<l.length) (d:α):l.getD i d∈l:=by
 rw [List.getD_eq_getElem?_getD,List.getElem?_eq_getElem hi];exact List.getElem_mem hi
structure smallM (vs:List Vrb) (ps:List Pcs) (ts:List Trn):Prop where
 vl:vs.length≤5001
 v:∀ v∈vs,v.1.length≤60000
 pl:ps.length≤5001
 p:∀ p∈ps,p.1.length≤60000∧p.2.length≤60001∧okL 60000 p.2
 tl:ts.length≤5001
 t:∀ t∈ts,okTr t
theorem smallM.g {vs:List Vrb} {ps:List Pcs} {ts:List Trn} (h:smallM vs ps ts):smallG vs ps:=⟨by have:=h.vl;omega,by have:=h.pl;omega,fun p hp=>by have:=(h.p p hp).2.1;omega⟩
def okVar (v:Vrb):Prop:=v.2.1≤v.2.2.2∧v.2.2.2≤v.2.2.1∧-999≤v.2.1∧v.2.2.1≤999
structure goodM (vs:List Vrb) (ps:List Pcs):Prop where
 vl:vs.length≤4
 v:∀ v∈vs,okVar v
 pl:ps.length≤3
 p:∀ p∈ps,1≤p.2.length∧p.2.length≤6
section
variable {vs:List Vrb} {ps:List Pcs} {ts:List Trn} (hM:smallM vs ps ts)
noncomputable abbrev rtR (vs:List Vrb) (ps:List Pcs) (ts:List Trn) (id:Int) (a b c d:List UInt8) (g:List Trm) (ef:List Eff):=R23 M49 M50 M51 M52 M24 M53 vs ps ts id a b c d g ef
include hM in
theorem rt_loop (id:Int) (a b c d:List UInt8) (g:List Trm) (ef:List Eff) (hl:ef.length≤3) (hk:∀ x∈ef,okEf x):∀ (t i n:Nat),i+t=ef.length→t<n→∃ r,rtR vs ps ts id a b c d g ef n (.l0 i)=some r
 | t,i,0,hi,hn=>by omega
 | 0,i,n+1,hi,hn=>by
   show ∃ r,T23 Ops.std _ _ _ _ _ _ vs ps ts id a b c d g ef _ some _=some r
   unfold T23
   simp only [qaj,qab]
   rw [if_neg (by omega)]
   exact ⟨_,rfl⟩
 | t+1,i,n+1,hi,hn=>by
   have ih:=rt_loop id a b c d g ef hl hk t (i+1) n (by omega) (by omega)
   have hx:=hk _ (qbo (show i<ef.length by omega) (Ty.dflt ty116))
   show ∃ r,T23 Ops.std _ _ _ _ _ _ vs ps ts id a b c d g ef _ some _=some r
   unfold T23
   obtain ⟨r,r1,_⟩:=qe6 vs ps ts hM.g.v (ef.getD i (Ty.dflt ty116)).1
   obtain ⟨q,q1,_⟩:=qej ts hM.g (ef.getD i (Ty.dflt ty116)).2 hx.short
   simp only [qaj,qal,qab,qaf,r1,q1,ob_s,show IntKind.wrap IntKind.i64 ((i:Int)+1)=((i+1:Nat):Int) from qag (by omega)]
   rw [if_pos (by omega),if_pos (by omega)]
   by_cases hr:r<0
   ·rw [if_pos hr];exact ⟨_,rfl⟩
   ·rw [if_neg hr,if_pos (by omega)]
    cases q with
    | false=>exact ⟨_,rfl⟩
    | true=>exact ih
include hM in
theorem rt_ok (t:Trn) (ht:okTr t):∃ r,M23 vs ps ts t.1 t.2.1 t.2.2.1 t.2.2.2.1 t.2.2.2.2.1 t.2.2.2.2.2.1 t.2.2.2.2.2.2=some r:=by
 obtain ⟨id,a,b,c,d,g,ef⟩:=t
 obtain ⟨h1,h2,h3,h4,h5,h6,h7⟩:=ht
 show ∃ r,T23 Ops.std M49 M50 M51 M52 M24 M53 vs ps ts id a b c d g ef (rtR vs ps ts id a b c d g ef 1000000) some none=some r
 unfold T23
 obtain ⟨p,p1,p2⟩:=qfq vs ps ts hM.g.p a
 obtain ⟨ch,ok,c1⟩:=qdv d (by simp only at h4;omega)
 obtain ⟨x,x1,_⟩:=place_ok vs ps ts hM.g.l p p2 b
 obtain ⟨y,y1,_⟩:=place_ok vs ps ts hM.g.l p p2 c
 obtain ⟨q,q1,_⟩:=qej ts hM.g g h5
 simp only [p1,c1,id_ok,x1,y1,q1,ob_s,qaj,qab]
 cases decide (1≤id∧id≤999) with
 | false=>exact ⟨_,rfl⟩
 | true=>
 cases ok with
 | false=>exact ⟨_,rfl⟩
 | true=>
 simp only [Bool.not_true,cond_false]
 by_cases hx:x<0
 ·rw [if_pos hx];exact ⟨_,rfl⟩
 ·rw [if_neg hx]
  by_cases hy:y<0
  ·rw [if_pos hy];exact ⟨_,rfl⟩
  ·rw [if_neg hy]
   cases q with
   | false=>exact ⟨_,rfl⟩
   | true=>
   simp only [Bool.not_true,cond_false]
   by_cases h3:(3:Int)<((ef.length:Nat):Int)
   ·rw [if_pos h3];exact ⟨_,rfl⟩
   ·rw [if_neg h3]
    exact rt_loop hM id a b c d g ef (by omega) h7 ef.length 0 1000000 (by omega) (by omega)
noncomputable abbrev rmR (vs:List Vrb) (ps:List Pcs) (ts:List Trn):=R8 M20 M21 M22 M23 vs ps ts
include hM in
theorem rm_l3 (h16:ts.length≤16):∀ (t i n:Nat),i+t=ts.length→2*t<n→∃ r,rmR vs ps ts n (.l3 i)=some r
 | t,i,0,hi,hn=>by omega
 | 0,i,n+1,hi,hn=>by
   show ∃ r,T8 Ops.std _ _ _ _ vs ps ts _ some _=some r
   unfold T8
   simp only [qaj,qab]
   rw [if_neg (by omega)]
   exact ⟨_,rfl⟩
 | t+1,i,n+1,hi,hn=>by
   obtain ⟨m,rfl⟩:∃ m,n=m+1:=⟨n-1,by omega⟩
   have ih:=rm_l3 h16 t (i+1) m (by omega) (by omega)
   have h25:rmR vs ps ts (m+1) (.l1025 i)=rmR vs ps ts m (.l3 ((i+1:Nat):Int)):=by
    show T8 Ops.std _ _ _ _ vs ps ts _ some _=_
    unfold T8
    simp only [show IntKind.wrap IntKind.i64 ((i:Int)+1)=((i+1:Nat):Int) from qag (by omega)]
   obtain ⟨r,r1⟩:=rt_ok hM (ts.getD i (Ty.dflt ty71)) (hM.t _ (qbo (by omega) _))
   show ∃ r,T8 Ops.std _ _ _ _ vs ps ts _ some _=some r
   unfold T8
   simp only [qaj,qax,qal,qab,qaf,r1,ob_s]
   rw [if_pos (by omega),if_pos (by omega)]
   cases r with
   | false=>exact ⟨_,rfl⟩
   | true=>
   simp only [Bool.not_true,cond_false]
   by_cases h0:(0:Int)<(i:Int)
   ·rw [if_pos h0,if_pos (by omega),show IntKind.wrap IntKind.i64 ((i:Int)-1)=((i-1:Nat):Int) by rw [wrap64 (by omega) (by omega)];omega,if_pos (by omega)]
    split
    ·exact ⟨_,rfl⟩
    ·obtain ⟨r,hr⟩:=ih;exact ⟨r,h25.trans hr⟩
   ·rw [if_neg h0];obtain ⟨r,hr⟩:=ih;exact ⟨r,h25.trans hr⟩
theorem rm_l2 (Q:Bool→Prop) (hQ:Q false) (i:Nat) (hi:i<100000) (vn pn:List (List UInt8)) (nm:List UInt8) (locs:List (List UInt8)) (hl:locs.length≤6) (hk:okL 60000 locs) (N:Nat) (hc:∀ m,N≤m→∃ r,rmR vs ps ts m (.l1 ((i+1:Nat):Int) vn pn)=some r∧Q r) :
  ∀ (t j n:Nat),j+t=locs.length→N+t<n→∃ r,rmR vs ps ts n (.l2 i j vn pn nm locs)=some r∧Q r
 | t,j,0,hj,hn=>by omega
 | 0,j,n+1,hj,hn=>by
   show ∃ r,T8 Ops.std _ _ _ _ vs ps ts _ some _=some r∧_
   unfold T8
   simp only [qaj,qab,show IntKind.wrap IntKind.i64 ((i:Int)+1)=((i+1:Nat):Int) from qag (by omega)]
   rw [if_neg (by omega)]
   exact hc n (by omega)
 | t+1,j,n+1,hj,hn=>by
   have ih:=rm_l2 Q hQ i hi vn pn nm locs hl hk N hc t (j+1) n (by omega) (by omega)
   show ∃ r,T8 Ops.std _ _ _ _ vs ps ts _ some _=some r∧_
   unfold T8
   have hlen:=hk.get j
   simp only [qaj,qal,qab,qaf,show IntKind.wrap IntKind.i64 ((j:Int)+1)=((j+1:Nat):Int) from qag (by omega)]
   rw [if_pos (by omega),if_pos (by omega),qbg _ (by have:(locs.getD j (Ty.dflt ty9)).length≤60000:=hlen;omega),ob_s]
   cases isWordP (locs.getD j (Ty.dflt ty9)) with
   | false=>exact ⟨false,rfl,hQ⟩
   | true=>exact ih
include hM in
theorem rm_l1 (hv:vs.length≤4→∀ v∈vs,okVar v):∀ (t i n:Nat) (vn pn:List (List UInt8)),i+t=ps.length→12*t+100<n→vn.length=vs.length→pn.length=i→(∀ p∈ps.take i,1≤p.2.length∧p.2.length≤6)→∃ r,rmR vs ps ts n (.l1 i vn pn)=some r∧(r=true→goodM vs ps)
 | t,i,0,vn,pn,hi,hn,h1,h2,hk=>by omega
 | 0,i,n+1,vn,pn,hi,hn,h1,h2,hk=>by
   show ∃ r,T8 Ops.std _ _ _ _ vs ps ts _ some _=some r∧_
   unfold T8
   simp only [qaj,qab]
   rw [if_neg (by omega)]
   have bad:∃ r:Bool,(some false:Option Bool)=some r∧(r=true→goodM vs ps):=⟨false,rfl,fun h=>by cases h⟩
   by_cases c1:(4:Int)<((vn.length:Nat):Int)
   ·rw [if_pos c1];exact bad
   ·rw [if_neg c1]
    by_cases c2:((pn.length:Nat):Int)<1
    ·rw [if_pos c2];exact bad
    ·rw [if_neg c2]
     by_cases c3:(3:Int)<((pn.length:Nat):Int)
     ·rw [if_pos c3];exact bad
     ·rw [if_neg c3]
      by_cases c4:(16:Int)<((ts.length:Nat):Int)
      ·rw [if_pos c4];exact bad
      ·rw [if_neg c4]
       obtain ⟨x,x1⟩:=twice_ok vn (by omega)
       obtain ⟨y,y1⟩:=twice_ok pn (by omega)
       rw [x1,ob_s]
       cases x with
       | true=>exact bad
       | false=>
       simp only [cond_false]
       rw [y1,ob_s]
       cases y with
       | true=>exact bad
       | false=>
       simp only [cond_false]
       obtain ⟨m,rfl⟩:∃ m,n=m+1:=⟨n-1,by omega⟩
       have h23:rmR vs ps ts (m+1) .l1023=rmR vs ps ts m (.l3 0):=rfl
       obtain ⟨r,r1⟩:=rm_l3 hM (by omega) ts.length 0 m (by omega) (by omega)
       refine ⟨r,h23.trans r1,fun _=>⟨by omega,hv (by omega),by omega,?_⟩⟩
       rwa [List.take_of_length_le (by omega)] at hk
 | t+1,i,n+1,vn,pn,hi,hn,h1,h2,hk=>by
   have hpl:=hM.pl
   have hx:=hM.p _ (qbo (show i<ps.length by omega) (Ty.dflt ty65))
   have bad:∃ r:Bool,(some false:Option Bool)=some r∧(r=true→goodM vs ps):=⟨false,rfl,fun h=>by cases h⟩
   show ∃ r,T8 Ops.std _ _ _ _ vs ps ts _ some _=some r∧_
   unfold T8
   simp only [qaj,qal,qau,qab,qaf,mt,List.length_cons,List.length_nil]
   rw [if_pos (by omega),if_pos (by omega),if_pos (by omega),qbg _ (by have:=hx.1;omega),ob_s]
   cases isWordP (ps.getD i (Ty.dflt ty65)).1 with
   | false=>exact bad
   | true=>
   simp only [Bool.not_true,cond_false]
   by_cases c1:(((ps.getD i (Ty.dflt ty65)).2.length:Nat):Int)<1
   ·rw [if_pos c1];exact bad
   ·rw [if_neg c1]
    by_cases c2:(6:Int)<(((ps.getD i (Ty.dflt ty65)).2.length:Nat):Int)
    ·rw [if_pos c2];exact bad
    ·rw [if_neg c2]
     obtain ⟨x,x1⟩:=twice_ok (ps.getD i (Ty.dflt ty65)).2 (by omega)
     rw [x1,ob_s]
     cases x with
     | true=>exact bad
     | false=>
     simp only [cond_false]
     obtain ⟨m,rfl⟩:∃ m,n=m+1:=⟨n-1,by omega⟩
     have h16:∀ vn pn nm locs,rmR vs ps ts (m+1) (.l1016 i vn pn nm locs)=rmR vs ps ts m (.l2 i 0 vn pn nm locs):=fun _ _ _ _=>rfl
     obtain ⟨r,r1,r2⟩:=rm_l2 (ts:=ts) (fun r=>r=true→goodM vs ps) (fun h=>by cases h) i (by omega) vn (pn++[(ps.getD i (Ty.dflt ty65)).1]) (ps.getD i (Ty.dflt ty65)).1 (ps.getD i (Ty.dflt ty65)).2 (by omega) hx.2.2 (12*t+101)
      (fun k hkk=>rm_l1 hv t (i+1) k vn (pn++[(ps.getD i (Ty.dflt ty65)).1]) (by omega) (by omega) h1 (by simp;omega) (take_ext (by omega) (Ty.dflt ty65) hk ⟨by omega,by omega⟩)) _ 0 m (Nat.zero_add _) (by omega)
     exact ⟨r,(h16 _ _ _ _).trans r1,r2⟩
include hM in
theorem rm_l0:∀ (t i n:Nat) (vn:List (List UInt8)),i+t=vs.length→2*t+70000<n→vn.length=i→(∀ v∈vs.take i,okVar v)→∃ r,rmR vs ps ts n (.l0 i vn)=some r∧(r=true→goodM vs ps)
 | t,i,0,vn,hi,hn,h1,hk=>by omega
 | 0,i,n+1,vn,hi,hn,h1,hk=>by
   have hpl:=hM.pl
   show ∃ r,T8 Ops.std _ _ _ _ vs ps ts _ some _=some r∧_
   unfold T8
   simp only [qaj,qab]
   rw [if_neg (by omega)]
   rw [List.take_of_length_le (by omega)] at hk
   exact rm_l1 hM (fun _=>hk) ps.length 0 n vn [] (by omega) (by omega) (by omega) rfl (fun p h=>by simp at h)
 | t+1,i,n+1,vn,hi,hn,h1,hk=>by
   have hvl:=hM.vl
   obtain ⟨m,rfl⟩:∃ m,n=m+1:=⟨n-1,by omega⟩
   have h04:∀ vn,rmR vs ps ts (m+1) (.l1004 i vn)=rmR vs ps ts m (.l0 ((i+1:Nat):Int) vn):=fun vn=>by
    show T8 Ops.std _ _ _ _ vs ps ts _ some _=_
    unfold T8
    simp only [show IntKind.wrap IntKind.i64 ((i:Int)+1)=((i+1:Nat):Int) from qag (by omega)]
   have hx:=hM.v _ (qbo (show i<vs.length by omega) (Ty.dflt ty61))
   have bad:∃ r:Bool,(some false:Option Bool)=some r∧(r=true→goodM vs ps):=⟨false,rfl,fun h=>by cases h⟩
   have ih:=rm_l0 t (i+1) m
   show ∃ r,T8 Ops.std _ _ _ _ vs ps ts _ some _=some r∧_
   unfold T8
   obtain ⟨x,hxe⟩:∃ x,vs.getD i (Ty.dflt ty61)=x:=⟨_,rfl⟩
   rw [hxe] at hx
   simp only [qaj,qal,qau,qab,qaf,mt,List.length_cons,List.length_nil,hxe,w999_ok,ob_s]
   rw [if_pos (by omega),if_pos (by omega),if_pos (by omega),qbg _ (by omega),ob_s]
   cases isWordP x.1 with
   | false=>exact bad
   | true=>
   simp only [Bool.not_true,cond_false,qba,qab]
   by_cases c1:x.2.2.2<x.2.1
   ·rw [if_pos c1];exact bad
   ·rw [if_neg c1]
    by_cases c2:x.2.2.1<x.2.2.2
    ·rw [if_pos c2];exact bad
    ·rw [if_neg c2]
     by_cases c3:-999≤x.2.1∧x.2.1≤999
     ·rw [if_neg (fun h=>h c3)]
      by_cases c4:-999≤x.2.2.1∧x.2.2.1≤999
      ·rw [if_neg (fun h=>h c4)]
       obtain ⟨r,r1,r2⟩:=ih (vn++[x.1]) (by omega) (by omega) (by simp;omega) (take_ext (by omega) (Ty.dflt ty61) hk (by rw [hxe];exact ⟨by omega,by omega,c3.1,c4.2⟩))
       exact ⟨r,(h04 _).trans r1,r2⟩
      ·rw [if_pos c4];exact bad
     ·rw [if_pos c3];exact bad
include hM in
theorem qdi:∃ r,M8 vs ps ts=some r∧(r=true→goodM vs ps):=by
 have hvl:=hM.vl
 show ∃ r,T8 Ops.std M20 M21 M22 M23 vs ps ts (rmR vs ps ts 1000000) some none=some r∧_
 unfold T8
 exact rm_l0 hM vs.length 0 1000000 [] (by omega) (by omega) rfl (fun v h=>by simp at h)
end
theorem smallM_nil:smallM [] [] []:=⟨by simp,fun v h=>(by cases h),by simp,fun v h=>(by cases h),by simp,fun v h=>by cases h⟩
def rightOr (vs:List Vrb) (ps:List Pcs) (ts:List Trn):Prop:=smallM vs ps ts∧((M8 vs ps ts=some true∧goodM vs ps)∨(vs=[]∧ps=[]∧ts=[]))
theorem qe7:rightOr [] [] []:=⟨smallM_nil,.inr ⟨rfl,rfl,rfl⟩⟩
noncomputable abbrev pmR (s:List UInt8):=R16 M35 M36 M37 M39 M38 M8 s
structure soFar (vs:List Vrb) (ps:List Pcs) (ts:List Trn) (i:Nat):Prop where
 vl:vs.length≤i
 v:∀ v∈vs,v.1.length≤60000
 pl:ps.length≤i
 p:∀ p∈ps,p.1.length≤60000∧p.2.length≤60001∧okL 60000 p.2
 tl:ts.length≤i
 t:∀ t∈ts,okTr t
theorem mem_app {α:Type} {P:α→Prop} {l:List α} {x:α} (h:∀ y∈l,P y) (hx:P x):∀ y∈l++[x],P y:=fun y hy=>by
 rcases List.mem_append.1 hy with hy | hy
 ·exact h y hy
 ·simp only [List.mem_singleton] at hy;rw [hy];exact hx
theorem pm_loop (s:List UInt8) (L:List (List UInt8)) (hL:L.length≤5001) (hk:okL 5000 L):∀ (t i n:Nat) (st:Int) (vs:List Vrb) (ps:List Pcs) (ts:List Trn),i+t=L.length→t<n→soFar vs ps ts i→
  ∃ vs' ps' ts' e x,pmR s n (.l0 st i L vs ps ts)=some (vs',ps',ts',e,x)∧rightOr vs' ps' ts'
 | t,i,0,st,vs,ps,ts,hi,hn,hs=>by omega
 | 0,i,n+1,st,vs,ps,ts,hi,hn,hs=>by
   have bad:∃ vs' ps' ts' e x,(some (([]:List Vrb),([]:List Pcs),([]:List Trn),(2:Int),(0:Int)))=some (vs',ps',ts',e,x)∧rightOr vs' ps' ts':=⟨_,_,_,_,_,rfl,qe7⟩
   have hM:smallM vs ps ts:=⟨by have:=hs.vl;omega,hs.v,by have:=hs.pl;omega,hs.p,by have:=hs.tl;omega,hs.t⟩
   show ∃ vs' ps' ts' e x,T16 Ops.std _ _ _ _ _ _ s _ some _=some (vs',ps',ts',e,x)∧_
   unfold T16
   simp only [qaj,qab]
   rw [if_neg (by omega)]
   obtain ⟨r,r1,r2⟩:=qdi hM
   rw [r1,ob_s]
   cases r with
   | false=>exact bad
   | true=>exact ⟨_,_,_,_,_,rfl,hM,.inl ⟨r1,r2 rfl⟩⟩
 | t+1,i,n+1,st,vs,ps,ts,hi,hn,hs=>by
   have ih:=fun st vs ps ts=>pm_loop s L hL hk t (i+1) n st vs ps ts (by omega) (by omega)
   have hmono:soFar vs ps ts (i+1):=⟨by have:=hs.vl;omega,hs.v,by have:=hs.pl;omega,hs.p,by have:=hs.tl;omega,hs.t⟩
   have bad:∀ k:Int,∃ vs' ps' ts' e x,(some (([]:List Vrb),([]:List Pcs),([]:List Trn),(2:Int),k))=some (vs',ps',ts',e,x)∧rightOr vs' ps' ts':=fun k=>⟨_,_,_,_,_,rfl,qe7⟩
   have hvl:=hs.vl
   have hpl:=hs.pl
   have htl:=hs.tl
   show ∃ vs' ps' ts' e x,T16 Ops.std _ _ _ _ _ _ s _ some _=some (vs',ps',ts',e,x)∧_
   unfold T16
   have hlen:(L.getD i (Ty.dflt ty9)).length≤5000:=hk.get i
   simp only [qaj,qal,qau,qba,qab,qaf,mt,List.length_cons,List.length_nil,show IntKind.wrap IntKind.i64 ((i:Int)+1)=((i+1:Nat):Int) from qag (by omega)]
   rw [if_pos (by omega),if_pos (by omega)]
   cases (L.getD i (Ty.dflt ty9)) == ([]:List UInt8) with
   | true=>exact ih st vs ps ts hmono
   | false=>
   simp only [cond_false]
   rw [if_pos (by omega)]
   obtain ⟨w,w1,w2,w3⟩:=words_ok (L.getD i (Ty.dflt ty9)) (by omega)
   rw [w1,ob_s]
   have w3':okL 60000 w:=fun x hx=>by have:=w3 x hx;omega
   by_cases h0:(0:Int)<((w.length:Nat):Int)
   ·rw [if_pos h0,if_pos (by omega)]
    cases (w.getD (Int.toNat 0) (Ty.dflt ty9)) == ([118,97,114]:List UInt8) with
    | true=>
      simp only [cond_true]
      obtain ⟨nm,lo,hi',ini,ok,v1,v2⟩:=parseVar_ok (List.drop (Int.toNat 1) (List.take w.length w)) 60000 (fun x hx=>w3' x (List.mem_of_mem_take (List.mem_of_mem_drop hx)))
      rw [if_pos (by omega),v1,ob_s]
      dsimp only
      rw [if_pos (by omega)]
      cases ok with
      | false=>exact bad _
      | true=>
      simp only [Bool.not_true,cond_false]
      split
      ·exact bad _
      ·exact ih _ _ _ _ ⟨by simp;omega,mem_app hs.v v2,by omega,hs.p,by omega,hs.t⟩
    | false=>
    simp only [cond_false]
    cases (w.getD (Int.toNat 0) (Ty.dflt ty9)) == ([112,114,111,99]:List UInt8) with
    | true=>
      simp only [cond_true]
      by_cases h1:(1:Int)<((w.length:Nat):Int)
      ·rw [if_pos h1,if_pos (by omega),if_pos (by omega),if_pos (by omega),if_neg (fun h=>h h1)]
       split
       ·exact bad _
       ·exact ih _ _ _ _ ⟨by omega,hs.v,by simp;omega,mem_app hs.p ⟨w3'.get (Int.toNat 1),by simp;omega,fun x hx=>w3' x (List.mem_of_mem_take (List.mem_of_mem_drop hx))⟩,by omega,hs.t⟩
      ·rw [if_neg h1,if_pos h1];exact bad _
    | false=>
    simp only [cond_false]
    cases (w.getD (Int.toNat 0) (Ty.dflt ty9)) == ([116,114,97,110,115]:List UInt8) with
    | true=>
      simp only [cond_true]
      obtain ⟨r,r1,r2⟩:=skip_ok (L.getD i (Ty.dflt ty9)) (by omega) 1 (by omega)
      have r1':M39 (L.getD i (Ty.dflt ty9)) 1=some r:=r1
      obtain ⟨id,a,b,c,d,g,ef,ok,t1,t2⟩:=parseTrans_ok r (by omega)
      rw [if_pos (by omega),r1',ob_s,t1,ob_s]
      dsimp only
      rw [if_pos (by omega)]
      cases ok with
      | false=>exact bad _
      | true=>
      simp only [Bool.not_true,cond_false]
      split
      ·exact bad _
      ·exact ih _ _ _ _ ⟨by omega,hs.v,by omega,hs.p,by simp;omega,mem_app hs.t t2⟩
    | false=>exact bad _
   ·rw [if_neg h0];exact bad _
theorem parseModel_ok (s:List UInt8) (hs:s.length≤5000):∃ vs ps ts e x,M16 s=some (vs,ps,ts,e,x)∧rightOr vs ps ts:=by
 show ∃ vs ps ts e x,T16 Ops.std M35 M36 M37 M39 M38 M8 s (pmR s 1000000) some none=some (vs,ps,ts,e,x)∧_
 unfold T16
 simp only [qaj,qab]
 rw [if_neg (by omega)]
 obtain ⟨L,l1,l2,l3,l4⟩:=cut_ok s (by omega) 10
 rw [l1,ob_s]
 exact pm_loop s L (by omega) (fun x hx=>by have:=l4 x hx;omega) L.length 0 1000000 0 [] [] [] (by omega) (by omega) ⟨by simp,fun v h=>(by cases h),by simp,fun v h=>(by cases h),by simp,fun v h=>by cases h⟩
theorem Model_ok2 (p0 p1:Int) (p2:List (List Int)):∃ vs ps ts,M5 p0 p1 p2=some (vs,ps,ts)∧rightOr vs ps ts:=by
 obtain ⟨s,s1,s2⟩:=Text_ok p0 p1 p2
 obtain ⟨vs,ps,ts,e,x,h1,h2⟩:=parseModel_ok s s2
 refine ⟨vs,ps,ts,?_,h2⟩
 show T5 Ops.std M17 M16 p0 p1 p2 some=_
 unfold T5
 rw [s1,ob_s,h1,ob_s]
theorem Model_ok (p0 p1:Int) (p2:List (List Int)):∃ vs ps ts,M5 p0 p1 p2=some (vs,ps,ts)∧smallM vs ps ts:=by
 obtain ⟨vs,ps,ts,h1,h2,_⟩:=Model_ok2 p0 p1 p2
 exact ⟨vs,ps,ts,h1,h2⟩
theorem goodM_nil:goodM [] []:=⟨by simp,fun v h=>(by cases h),by simp,fun p h=>by cases h⟩
theorem rightOr.good {vs:List Vrb} {ps:List Pcs} {ts:List Trn} (h:rightOr vs ps ts):goodM vs ps:=by
 rcases h.2 with h | ⟨rfl,rfl,rfl⟩
 ·exact h.2
 ·exact goodM_nil
def fnB (l:List Bool) (i:Nat):Bool:=l.getD i (Ty.dflt ty4)
theorem fnB_set (l:List Bool) (i:Nat) (hi:i<l.length) (v:Bool) (j:Nat):fnB (l.set i v) j=if j=i then v else fnB l j:=by
 unfold fnB
 rw [List.getD_eq_getElem?_getD,List.getD_eq_getElem?_getD,List.getElem?_set]
 by_cases h:i=j
 ·subst h;simp [hi]
 ·rw [if_neg h,if_neg (Ne.symm h)]
def stepB (op:Int) (a b:Nat→Bool) (i j:Nat) (o:Nat→Bool):Bool:=
 if op=4 then !a i
 else if op=5 then a i && b i
 else if op=6 then a i || b i
 else if op=7 then !a i || b i
 else if op=8 then a j
 else if op=9 then b i || (a i && o j)
 else if op=10 then b i && (a i || o j)
 else if op=11 then a i || o j
 else if op=12 then a i && o j
 else o i
def swL (op:Int) (a b:List Bool) (n back:Nat):Nat→List Bool→List Bool
 | 0,out=>out
 | k+1,out=>swL op a b n back k (out.set k (stepB op (fnB a) (fnB b) k (nx n back k) (fnB out)))
theorem qct (op:Int) (a b:List Bool) (n back:Nat):∀ (k:Nat) (out:List Bool),(swL op a b n back k out).length=out.length
 | 0,out=>rfl
 | k+1,out=>by rw [swL,qct op a b n back k];simp
section
variable (op:Int) (a b:List Bool) (n back:Nat) (hb:back<n) (hn:n≤100)
noncomputable abbrev trR:=R31 op a b (n:Nat) (back:Nat)
def lensOk:Prop:=(op=4∨op=5∨op=6∨op=7∨op=8∨op=9∨op=10∨op=11∨op=12→a.length=n)∧(op=5∨op=6∨op=7∨op=9∨op=10→b.length=n)
include hb in
theorem tr_1015 (hl:lensOk op a b n) (m r i:Nat) (hi:i<n) (out:List Bool) (ho:out.length=n) :
  trR op a b n back (m+1) (.l1015 r i (nx n back i:Nat) out)=trR op a b n back m (.l1011 r i (out.set i (stepB op (fnB a) (fnB b) i (nx n back i) (fnB out)))):=by
 have hj:=nx_lt n back hb hi
 obtain ⟨la,lb⟩:=hl
 have hset:out.set i (out.getD i (Ty.dflt ty4))=out:=by
  apply List.ext_getElem?
  intro k
  rw [List.getElem?_set]
  by_cases hk:i=k
  ·subst hk
   rw [if_pos rfl,if_pos (by omega),List.getD_eq_getElem?_getD,List.getElem?_eq_getElem (by omega)];rfl
  ·rw [if_neg hk]
 show T31 Ops.std op a b (n:Nat) (back:Nat) _ some _=_
 unfold T31 stepB
 simp only [qap,qal,qab,qaf,ho]
 have ci:(0:Int)≤(i:Int)∧(i:Int)<((n:Nat):Int):=by omega
 have cj:(0:Int)≤((nx n back i:Nat):Int)∧((nx n back i:Nat):Int)<((n:Nat):Int):=by omega
 by_cases h4:op=4
 ·rw [if_pos h4,if_pos h4,la (by omega)];simp only [if_pos ci,if_pos cj];rfl
 rw [if_neg h4,if_neg h4]
 by_cases h5:op=5
 ·rw [if_pos h5,if_pos h5,la (by omega),lb (by omega)];simp only [if_pos ci,if_pos cj]
  show cond (fnB a i) _ _=_
  cases fnB a i<;>rfl
 rw [if_neg h5,if_neg h5]
 by_cases h6:op=6
 ·rw [if_pos h6,if_pos h6,la (by omega),lb (by omega)];simp only [if_pos ci,if_pos cj]
  show cond (fnB a i) _ _=_
  cases fnB a i<;>rfl
 rw [if_neg h6,if_neg h6]
 by_cases h7:op=7
 ·rw [if_pos h7,if_pos h7,la (by omega),lb (by omega)];simp only [if_pos ci,if_pos cj]
  show cond (!fnB a i) _ _=_
  cases fnB a i<;>rfl
 rw [if_neg h7,if_neg h7]
 by_cases h8:op=8
 ·rw [if_pos h8,if_pos h8,la (by omega)];simp only [if_pos ci,if_pos cj];rfl
 rw [if_neg h8,if_neg h8]
 by_cases h9:op=9
 ·rw [if_pos h9,if_pos h9,la (by omega),lb (by omega)];simp only [if_pos ci,if_pos cj]
  show cond (fnB b i) _ (cond (fnB a i) _ _)=_
  cases fnB b i<;>cases fnB a i<;>rfl
 rw [if_neg h9,if_neg h9]
 by_cases h10:op=10
 ·rw [if_pos h10,if_pos h10,la (by omega),lb (by omega)];simp only [if_pos ci,if_pos cj]
  show cond (fnB b i) (cond (fnB a i) _ _) _=_
  cases fnB b i<;>cases fnB a i<;>rfl
 rw [if_neg h10,if_neg h10]
 by_cases h11:op=11
 ·rw [if_pos h11,if_pos h11,la (by omega)];simp only [if_pos ci,if_pos cj]
  show cond (fnB a i) _ _=_
  cases fnB a i<;>rfl
 rw [if_neg h11,if_neg h11]
 by_cases h12:op=12
 ·rw [if_pos h12,if_pos h12,la (by omega)];simp only [if_pos ci,if_pos cj]
  show cond (fnB a i) _ _=_
  cases fnB a i<;>rfl
 rw [if_neg h12,if_neg h12]
 show _=trR op a b n back m (.l1011 r i (out.set i (out.getD i (Ty.dflt ty4))))
 rw [hset]
include hb hn in
theorem tr_step (hl:lensOk op a b n) (m r i:Nat) (hr:r<1000) (hi:i<n) (out:List Bool) (ho:out.length=n) :
  trR op a b n back (m+3) (.l2 r ((i+1:Nat)-1:Int) out)=trR op a b n back m (.l2 r ((i:Nat)-1:Int) (out.set i (stepB op (fnB a) (fnB b) i (nx n back i) (fnB out)))):=by
 have h2:trR op a b n back (m+2+1) (.l2 r (i:Nat) out)=trR op a b n back (m+2) (.l1015 r i (nx n back i:Nat) out):=by
  show T31 Ops.std op a b (n:Nat) (back:Nat) _ some _=_
  unfold T31
  simp only [qax,qap,qab]
  rw [if_pos (by omega),show IntKind.wrap IntKind.i64 ((i:Int)+1)=((i+1:Nat):Int) from qag (by omega)]
  unfold nx
  by_cases h:i+1=n
  ·rw [if_pos (by omega),if_pos h]
  ·rw [if_neg (by omega),if_neg h]
 have e1:((i+1:Nat)-1:Int)=(i:Nat):=by omega
 rw [e1]
 refine h2.trans ((tr_1015 op a b n back hb hl (m+1) r i hi out ho).trans ?_)
 show T31 Ops.std op a b (n:Nat) (back:Nat) _ some _=_
 unfold T31
 simp only [wrap64 (show -9223372036854775808≤(i:Int)-1 by omega) (by omega)]
include hb hn in
theorem tr_sweep (hl:lensOk op a b n) (r:Nat) (hr:r<1000):∀ (k:Nat),k≤n→∀ (m:Nat) (out:List Bool),out.length=n→
  trR op a b n back (m+3*k) (.l2 r ((k:Nat)-1:Int) out)=trR op a b n back m (.l2 r (-1) (swL op a b n back k out))
 | 0,hk,m,out,ho=>rfl
 | k+1,hk,m,out,ho=>by
   have h1:=tr_step op a b n back hb hn hl (m+3*k) r k hr (by omega) out ho
   rw [show m+3*(k+1)=m+3*k+3 by omega]
   refine h1.trans ?_
   exact tr_sweep hl r hr k (by omega) m _ (by simp [ho])
def swN (k:Nat) (out:List Bool):List Bool:=match k with
 | 0=>out
 | k+1=>swN k (swL op a b n back n out)
theorem swN_len:∀ (k:Nat) (out:List Bool),(swN op a b n back k out).length=out.length
 | 0,out=>rfl
 | k+1,out=>by rw [swN,swN_len k,qct]
include hb hn in
theorem tr_last (hop:op=9∨op=10∨op=11∨op=12) (hl:lensOk op a b n):∀ (t r f:Nat),r+t=n+2→400*t<f→∀ (out:List Bool),out.length=n→trR op a b n back f (.l1 r out)=some (swN op a b n back t out)
 | 0,r,f,hr,hf,out,ho=>by
   obtain ⟨g,rfl⟩:∃ g,f=g+1:=⟨f-1,by omega⟩
   show T31 Ops.std op a b (n:Nat) (back:Nat) _ some _=_
   unfold T31
   simp only [qax,qab,show IntKind.wrap IntKind.i64 ((n:Int)+1)=((n+1:Nat):Int) from qag (by omega)]
   rw [if_neg (by omega)]
   rfl
 | t+1,r,f,hr,hf,out,ho=>by
   obtain ⟨g,rfl⟩:∃ g,f=(g+1+1)+3*n+1:=⟨f-3*n-3,by omega⟩
   have h1:trR op a b n back ((g+1+1)+3*n+1) (.l1 r out)=trR op a b n back ((g+1+1)+3*n) (.l2 r ((n:Nat)-1:Int) out):=by
    show T31 Ops.std op a b (n:Nat) (back:Nat) _ some _=_
    unfold T31
    simp only [qax,qab,show IntKind.wrap IntKind.i64 ((n:Int)+1)=((n+1:Nat):Int) from qag (by omega),wrap64 (show -9223372036854775808≤(n:Int)-1 by omega) (by omega)]
    rw [if_pos (by omega)]
   have h2:=tr_sweep op a b n back hb hn hl r (by omega) n (Nat.le_refl _) (g+1+1) out ho
   have h3:trR op a b n back (g+1+1) (.l2 r (-1) (swL op a b n back n out))=trR op a b n back g (.l1 ((r+1:Nat):Int) (swL op a b n back n out)):=by
    have e:trR op a b n back (g+1+1) (.l2 r (-1) (swL op a b n back n out))=trR op a b n back (g+1) (.l1008 r (swL op a b n back n out)):=by
     show T31 Ops.std op a b (n:Nat) (back:Nat) _ some _=_
     unfold T31
     simp only [qax,qap,qba,qab]
     rw [if_neg (by omega)]
     rcases hop with h | h | h | h
     ·rw [if_neg (fun x=>x h)]
     ·rw [if_pos (by omega),if_neg (fun x=>x h)]
     ·rw [if_pos (by omega),if_pos (by omega),if_neg (fun x=>x h)]
     ·rw [if_pos (by omega),if_pos (by omega),if_pos (by omega),if_neg (fun x=>x h)]
    refine e.trans ?_
    show T31 Ops.std op a b (n:Nat) (back:Nat) _ some _=_
    unfold T31
    simp only [show IntKind.wrap IntKind.i64 ((r:Int)+1)=((r+1:Nat):Int) from qag (by omega)]
   refine h1.trans (h2.trans (h3.trans ?_))
   exact tr_last hop hl t (r+1) g (by omega) (by omega) _ (by rw [qct];exact ho)
include hb hn in
theorem tr_once (hop:op≠9∧op≠10∧op≠11∧op≠12) (hl:lensOk op a b n) (f:Nat) (hf:400<f) (out:List Bool) (ho:out.length=n):trR op a b n back f (.l1 0 out)=some (swL op a b n back n out):=by
 obtain ⟨g,rfl⟩:∃ g,f=(g+1)+3*n+1:=⟨f-3*n-2,by omega⟩
 have h1:trR op a b n back ((g+1)+3*n+1) (.l1 0 out)=trR op a b n back ((g+1)+3*n) (.l2 (0:Nat) ((n:Nat)-1:Int) out):=by
  show T31 Ops.std op a b (n:Nat) (back:Nat) _ some _=_
  unfold T31
  simp only [qax,qab,show IntKind.wrap IntKind.i64 ((n:Int)+1)=((n+1:Nat):Int) from qag (by omega),wrap64 (show -9223372036854775808≤(n:Int)-1 by omega) (by omega)]
  rw [if_pos (by omega)]
  rfl
 have h2:=tr_sweep op a b n back hb hn hl 0 (by omega) n (Nat.le_refl _) (g+1) out ho
 refine h1.trans (h2.trans ?_)
 show T31 Ops.std op a b (n:Nat) (back:Nat) _ some _=_
 unfold T31
 simp only [qax,qap,qba,qab]
 rw [if_neg (by omega),if_pos hop.1,if_pos hop.2.1,if_pos hop.2.2.1,if_pos hop.2.2.2]
def ini (op:Int):Bool:=decide (op=10∨op=12∨op=1)
include hn in
theorem tr_init:∀ (t i f:Nat),i+t=n→2*t+1<f→∀ (out:List Bool),out.length=n→(∀ j,j<i→fnB out j=ini op)→∃ (g:Nat) (out':List Bool),f≤g+2*t+1∧trR op a b n back f (.l0 i out)=trR op a b n back g (.l1 0 out')∧out'.length=n∧∀ j,j<n→fnB out' j=ini op
 | 0,i,f,hi,hf,out,ho,hk=>by
   obtain ⟨g,rfl⟩:∃ g,f=g+1:=⟨f-1,by omega⟩
   refine ⟨g,out,by omega,?_,ho,fun j hj=>hk j (by omega)⟩
   show T31 Ops.std op a b (n:Nat) (back:Nat) _ some _=_
   unfold T31
   simp only [qaj,qab]
   rw [if_neg (by omega)]
 | t+1,i,f,hi,hf,out,ho,hk=>by
   obtain ⟨g,rfl⟩:∃ g,f=g+1+1:=⟨f-2,by omega⟩
   have h1:trR op a b n back (g+1+1) (.l0 i out)=trR op a b n back (g+1) (.l1004 i (out.set i (ini op))):=by
    show T31 Ops.std op a b (n:Nat) (back:Nat) _ some _=_
    unfold T31 ini
    simp only [qaj,qap,qal,qab,qaf,ho]
    rw [if_pos (by omega)]
    by_cases h10:op=10
    ·rw [if_pos h10,if_pos (by omega),decide_eq_true (.inl h10)]
    ·rw [if_neg h10]
     by_cases h12:op=12
     ·rw [if_pos h12,if_pos (by omega),decide_eq_true (.inr (.inl h12))]
     ·rw [if_neg h12,if_pos (by omega)]
      congr 3
      simp [h10,h12]
   have h2:trR op a b n back (g+1) (.l1004 i (out.set i (ini op)))=trR op a b n back g (.l0 ((i+1:Nat):Int) (out.set i (ini op))):=by
    show T31 Ops.std op a b (n:Nat) (back:Nat) _ some _=_
    unfold T31
    simp only [show IntKind.wrap IntKind.i64 ((i:Int)+1)=((i+1:Nat):Int) from qag (by omega)]
   obtain ⟨g',out',e1,e2,e3,e4⟩:=tr_init t (i+1) g (by omega) (by omega) (out.set i (ini op)) (by simp [ho]) fun j hj=>by
    rw [fnB_set _ _ (by omega)]
    by_cases h:j=i
    ·rw [if_pos h]
    ·rw [if_neg h];exact hk j (by omega)
   exact ⟨g',out',by omega,h1.trans (h2.trans e2),e3,e4⟩
def rowOK (op:Int) (a b:Nat→Bool) (n back:Nat) (i:Nat):Bool:=
 if op=1 then true else if op=2∨op=3 then false
 else if op=4∨op=8∨op=11∨op=12 then sem1 n back op a i else sem2 n back op a b i
theorem swL_fn (g:Nat→Bool→Bool) (hg:∀ i o,i<n→stepB op (fnB a) (fnB b) i (nx n back i) o=g i (o (nx n back i))):∀ (k:Nat),k≤n→∀ (out:List Bool),out.length=n→∀ (o:Nat→Bool),(∀ i,i<n→fnB out i=o i)→back<n→∀ i,i<n→fnB (swL op a b n back k out) i=sw n back g k o i
 | 0,hk,out,ho,o,h,hb,i,hi=>h i hi
 | k+1,hk,out,ho,o,h,hb,i,hi=>by
   rw [swL,sw]
   refine swL_fn g hg k (by omega) _ (by simp [ho]) _ (fun j hj=>?_) hb i hi
   rw [fnB_set _ _ (by omega)]
   unfold upd1
   by_cases e:j=k
   ·rw [if_pos e,if_pos e,hg k _ (by omega),h _ (nx_lt n back hb (by omega))]
   ·rw [if_neg e,if_neg e];exact h j hj
theorem swN_fn (g:Nat→Bool→Bool) (hg:∀ i o,i<n→stepB op (fnB a) (fnB b) i (nx n back i) o=g i (o (nx n back i))) (hb:back<n):∀ (k:Nat) (out:List Bool),out.length=n→∀ (o:Nat→Bool),(∀ i,i<n→fnB out i=o i)→∀ i,i<n→fnB (swN op a b n back k out) i=sws n back g k o i
 | 0,out,ho,o,h,i,hi=>h i hi
 | k+1,out,ho,o,h,i,hi=>by
   rw [swN,sws]
   exact swN_fn g hg hb k _ (by rw [qct];exact ho) _ (swL_fn op a b n back g hg n (Nat.le_refl _) out ho o h hb) i hi
theorem sw_const (h:Nat→Bool):∀ (k:Nat) (o:Nat→Bool) (i:Nat),sw n back (fun j _=>h j) k o i=if i<k then h i else o i
 | 0,o,i=>by simp [sw]
 | k+1,o,i=>by
   rw [sw,sw_const h k]
   unfold upd1
   by_cases h1:i<k
   ·rw [if_pos h1,if_pos (by omega)]
   ·rw [if_neg h1]
    by_cases h2:i=k
    ·rw [if_pos h2,if_pos (by omega),h2]
    ·rw [if_neg h2,if_neg (by omega)]
theorem swL_id (hop:op=1∨op=2∨op=3):∀ (k:Nat),k≤n→∀ (out:List Bool),out.length=n→swL op a b n back k out=out
 | 0,hk,out,ho=>rfl
 | k+1,hk,out,ho=>by
   have hs:out.set k (stepB op (fnB a) (fnB b) k (nx n back k) (fnB out))=out:=by
    have e:stepB op (fnB a) (fnB b) k (nx n back k) (fnB out)=out.getD k (Ty.dflt ty4):=by
     unfold stepB
     rw [if_neg (by omega),if_neg (by omega),if_neg (by omega),if_neg (by omega),if_neg (by omega),if_neg (by omega),if_neg (by omega),if_neg (by omega),if_neg (by omega)]
     rfl
    rw [e]
    apply List.ext_getElem?
    intro j
    rw [List.getElem?_set]
    by_cases hj:k=j
    ·subst hj
     rw [if_pos rfl,if_pos (by omega),List.getD_eq_getElem?_getD,List.getElem?_eq_getElem (by omega)];rfl
    ·rw [if_neg hj]
   rw [swL,hs]
   exact swL_id hop k (by omega) out ho
include hb hn in
theorem truths_ok (hop:0≤opn op) (hl:lensOk op a b n):∃ out,M31 op a b (n:Nat) (back:Nat)=some out∧out.length=n∧∀ i,i<n→fnB out i=rowOK op (fnB a) (fnB b) n back i:=by
 have hcase:op=1∨op=2∨op=3∨op=4∨op=5∨op=6∨op=7∨op=8∨op=9∨op=10∨op=11∨op=12:=by
  unfold opn at hop
  split at hop
  ·omega
  ·split at hop
   ·omega
   ·split at hop
    ·omega
    ·omega
 show ∃ out,T31 Ops.std op a b (n:Nat) (back:Nat) (trR op a b n back 1000000) some none=some out∧_
 unfold T31
 have h0n:(0:Int)≤(n:Int):=by omega
 have hlim:n*1≤140737488355328:=by omega
 simp only [qap,qax,qau,qaf,decide_true,h0n,hlim,cond_true]
 obtain ⟨g,out,e1,e2,e3,e4⟩:=tr_init op a b n back hn n 0 1000000 (by omega) (by omega) (List.replicate n (Ty.dflt Ty.bool)) (by simp) (fun j hj=>by omega)
 have e2':trR op a b n back 1000000 (.l0 0 (List.replicate n (Ty.dflt Ty.bool)))=trR op a b n back g (.l1 0 out):=e2
 have goal:∀ out',trR op a b n back g (.l1 0 out)=some out'→out'.length=n→(∀ i,i<n→fnB out' i=rowOK op (fnB a) (fnB b) n back i)→∃ out,trR op a b n back 1000000 (.l0 0 (List.replicate n (Ty.dflt Ty.bool)))=some out∧out.length=n∧∀ i,i<n→fnB out i=rowOK op (fnB a) (fnB b) n back i:=
  fun out' h1 h2 h3=>⟨out',e2'.trans h1,h2,h3⟩
 have const:(op≠9∧op≠10∧op≠11∧op≠12)→∀ h:Nat→Bool,(∀ i o,i<n→stepB op (fnB a) (fnB b) i (nx n back i) o=h i)→(∀ i,i<n→rowOK op (fnB a) (fnB b) n back i=h i)→∃ out,trR op a b n back 1000000 (.l0 0 (List.replicate n (Ty.dflt Ty.bool)))=some out∧out.length=n∧∀ i,i<n→fnB out i=rowOK op (fnB a) (fnB b) n back i:=fun ho h hs hr=>
  goal _ (tr_once op a b n back hb hn ho hl g (by omega) out e3) (by rw [qct];exact e3) fun i hi=>by
   rw [swL_fn op a b n back (fun j _=>h j) hs n (Nat.le_refl _) out e3 (fnB out) (fun _ _=>rfl) hb i hi,sw_const,if_pos hi,hr i hi]
 have last:(op=9∨op=10∨op=11∨op=12)→∀ (gr:Nat→Bool→Bool) (v:Bool),ini op=v→(∀ i o,i<n→stepB op (fnB a) (fnB b) i (nx n back i) o=gr i (o (nx n back i)))→(∀ i,i<n→rowOK op (fnB a) (fnB b) n back i=sws n back gr (n+2) (fun _=>v) i)→∃ out,trR op a b n back 1000000 (.l0 0 (List.replicate n (Ty.dflt Ty.bool)))=some out∧out.length=n∧∀ i,i<n→fnB out i=rowOK op (fnB a) (fnB b) n back i:=fun ho gr v hv hs hr=>
  goal _ (tr_last op a b n back hb hn ho hl (n+2) 0 g (by omega) (by omega) out e3) (by rw [swN_len];exact e3) fun i hi=>by
   rw [swN_fn op a b n back gr hs hb (n+2) out e3 (fun _=>v) (fun j hj=>by rw [e4 j hj,hv]) i hi,hr i hi]
 rcases hcase with rfl | rfl | rfl | rfl | rfl | rfl | rfl | rfl | rfl | rfl | rfl | rfl
 ·refine goal _ (tr_once 1 a b n back hb hn (by omega) hl g (by omega) out e3) (by rw [qct];exact e3) fun i hi=>?_
  rw [swL_id 1 a b n back (.inl rfl) n (Nat.le_refl _) out e3,e4 i hi];rfl
 ·refine goal _ (tr_once 2 a b n back hb hn (by omega) hl g (by omega) out e3) (by rw [qct];exact e3) fun i hi=>?_
  rw [swL_id 2 a b n back (.inr (.inl rfl)) n (Nat.le_refl _) out e3,e4 i hi];rfl
 ·refine goal _ (tr_once 3 a b n back hb hn (by omega) hl g (by omega) out e3) (by rw [qct];exact e3) fun i hi=>?_
  rw [swL_id 3 a b n back (.inr (.inr rfl)) n (Nat.le_refl _) out e3,e4 i hi];rfl
 ·exact const (by omega) (fun i=>!fnB a i) (fun _ _ _=>rfl) (fun _ _=>rfl)
 ·exact const (by omega) (fun i=>fnB a i && fnB b i) (fun _ _ _=>rfl) (fun _ _=>rfl)
 ·exact const (by omega) (fun i=>fnB a i || fnB b i) (fun _ _ _=>rfl) (fun _ _=>rfl)
 ·exact const (by omega) (fun i=>!fnB a i || fnB b i) (fun _ _ _=>rfl) (fun _ _=>rfl)
 ·exact const (by omega) (fun i=>fnB a (nx n back i)) (fun _ _ _=>rfl) (fun _ _=>rfl)
 ·exact last (by omega) (ruU (fnB a) (fnB b)) false rfl (fun _ _ _=>rfl) (fun _ _=>rfl)
 ·exact last (by omega) (ruR (fnB a) (fnB b)) true rfl (fun _ _ _=>rfl) (fun _ _=>rfl)
 ·exact last (by omega) (ruF (fnB a)) false rfl (fun _ _ _=>rfl) (fun _ _=>rfl)
 ·exact last (by omega) (ruG (fnB a)) true rfl (fun _ _ _=>rfl) (fun _ _=>rfl)
end
theorem qdx (n:Int):∃ v,M57 n=some v:=⟨_,rfl⟩
theorem qdy (b:Bool):∃ v,M58 b=some v:=by cases b<;>exact ⟨_,rfl⟩
theorem two_some (op a b:Int):∃ v,M59 op a b=some v:=by
 show ∃ v,T59 Ops.std M57 M58 op a b some=some v
 unfold T59
 simp only [qap,qab]
 have hb:∀ n:Int,∃ v,(ob (M57 n) fun y=>some y)=some v:=fun n=>by obtain ⟨v,h⟩:=qdx n;exact ⟨v,by rw [h,ob_s]⟩
 have ht:∀ n:Bool,∃ v,(ob (M58 n) fun y=>some y)=some v:=fun n=>by obtain ⟨v,h⟩:=qdy n;exact ⟨v,by rw [h,ob_s]⟩
 have hc:∀ q x y:Bool,∃ v,(cond q (ob (M58 x) fun y=>some y) (ob (M58 y) fun y=>some y))=some v:=fun q x y=>by
  cases q
  ·exact ht y
  ·exact ht x
 repeat' (first | exact hb _ | exact ht _ | exact hc _ _ _ | split)
section
variable {vs:List Vrb} {ps:List Pcs} {ts:List Trn}
noncomputable abbrev evR (vs:List Vrb) (ps:List Pcs) (ts:List Trn) (s1 s2:List Int) (e:List Trm):=R29 M24 M53 M57 M49 M52 M58 M59 vs ps ts s1 s2 e
theorem eval_loop (s1 s2:List Int) (h1:s1.length=ps.length) (h2:s2.length=vs.length) (e:List Trm) (he:e.length≤30) (hk:∀ x∈e,knE vs ps ts x):∀ (t i n:Nat) (st:List Int),i+t=e.length→t<n→st.length≤i→∃ v,evR vs ps ts s1 s2 e n (.l0 i st)=some v
 | t,i,0,st,hi,hn,hs=>by omega
 | 0,i,n+1,st,hi,hn,hs=>by
   show ∃ v,T29 Ops.std _ _ _ _ _ _ _ vs ps ts s1 s2 e _ some _=some v
   unfold T29
   simp only [qaj,qap,qal,qab]
   rw [if_neg (by omega)]
   by_cases h0:((st.length:Nat):Int)=0
   ·rw [if_pos h0];exact ⟨_,rfl⟩
   ·rw [if_neg h0,if_pos (by omega)];exact ⟨_,rfl⟩
 | t+1,i,n+1,st,hi,hn,hs=>by
   have ih:=fun st=>eval_loop s1 s2 h1 h2 e he hk t (i+1) n st (by omega) (by omega)
   obtain ⟨x,hx⟩:∃ x,e.getD i (Ty.dflt ty118)=x:=⟨_,rfl⟩
   have hm:x∈e:=by rw [←hx];exact qbo (by omega) _
   obtain ⟨k2,k3⟩:=hk x hm
   show ∃ v,T29 Ops.std _ _ _ _ _ _ _ vs ps ts s1 s2 e _ some _=some v
   unfold T29
   simp only [qaj,qap,qal,qau,qab,qaf,hx,mt,List.length_cons,List.length_nil,show IntKind.wrap IntKind.i64 ((i:Int)+1)=((i+1:Nat):Int) from qag (by omega)]
   rw [if_pos (by omega),if_pos (by omega)]
   by_cases o1:x.1=1
   ·rw [if_pos o1,if_pos (by omega)];exact ih _ (by simp;omega)
   rw [if_neg o1]
   by_cases o2:x.1=2
   ·obtain ⟨k,hk1,hk2⟩:=k2 o2
    rw [if_pos o2,hk2,ob_s,if_pos (by omega)]
    obtain ⟨y,hy⟩:=qdx (s2.getD (Int.toNat (k:Int)) (Ty.dflt ty3))
    rw [hy,ob_s,if_pos (by omega)];exact ih _ (by simp;omega)
   rw [if_neg o2]
   by_cases o3:x.1=3
   ·obtain ⟨q,r,q1,q2,q3⟩:=k3 o3
    rw [if_pos o3,q2,ob_s,if_pos (by omega),q3,ob_s]
    obtain ⟨y,hy⟩:=qdy (decide (s1.getD (Int.toNat (q:Int)) (Ty.dflt ty3)=r))
    rw [hy,ob_s,if_pos (by omega)];exact ih _ (by simp;omega)
   rw [if_neg o3]
   by_cases o4:x.1=4
   ·rw [if_pos o4]
    by_cases hl:((st.length:Nat):Int)<1
    ·rw [if_pos hl];exact ⟨_,rfl⟩
    ·have hw1:IntKind.wrap IntKind.i64 ((st.length:Int)-1)=((st.length-1:Nat):Int):=by rw [wrap64 (by omega) (by omega)];omega
     simp only [hw1,qaf]
     obtain ⟨y,hy⟩:=qdy (decide (st.getD (st.length-1) (Ty.dflt ty3)=0))
     rw [if_neg hl,if_pos trivial,if_pos (by omega),if_pos (by omega),hy,ob_s,if_pos (by omega),if_pos (by simp;omega)]
     exact ih _ (by simp;omega)
   rw [if_neg o4]
   by_cases o5:x.1=5
   ·rw [if_pos o5]
    by_cases hl:((st.length:Nat):Int)<1
    ·rw [if_pos hl];exact ⟨_,rfl⟩
    ·have hw1:IntKind.wrap IntKind.i64 ((st.length:Int)-1)=((st.length-1:Nat):Int):=by rw [wrap64 (by omega) (by omega)];omega
     simp only [hw1,qaf]
     obtain ⟨y,hy⟩:=qdx (IntKind.wrap IntKind.i64 (0-st.getD (st.length-1) (Ty.dflt ty3)))
     rw [if_neg hl,if_pos trivial,if_pos (by omega),if_pos (by omega),hy,ob_s,if_pos (by omega),if_pos (by simp;omega)]
     exact ih _ (by simp;omega)
   rw [if_neg o5]
   by_cases hl:((st.length:Nat):Int)<2
   ·rw [if_pos hl];exact ⟨_,rfl⟩
   ·have hw1:IntKind.wrap IntKind.i64 ((st.length:Int)-1)=((st.length-1:Nat):Int):=by rw [wrap64 (by omega) (by omega)];omega
    have hw2:IntKind.wrap IntKind.i64 ((st.length:Int)-2)=((st.length-2:Nat):Int):=by rw [wrap64 (by omega) (by omega)];omega
    simp only [hw1,hw2,qaf]
    obtain ⟨y,hy⟩:=two_some x.1 (st.getD (st.length-2) (Ty.dflt ty3)) (st.getD (st.length-1) (Ty.dflt ty3))
    rw [if_neg hl,if_pos trivial,if_pos (by omega),if_pos (by omega),if_pos (by omega),hy,ob_s,if_pos (by omega),if_pos (by simp;omega)]
    exact ih _ (by simp;omega)
theorem eval_ok (hg:smallG vs ps) (s1 s2:List Int) (e:List Trm) (he:shortE e):∃ v,M29 vs ps ts s1 s2 e=some v:=by
 show ∃ v,T29 Ops.std M24 M53 M57 M49 M52 M58 M59 vs ps ts s1 s2 e (evR vs ps ts s1 s2 e 1000000) some none=some v
 unfold T29
 obtain ⟨b,b1,b2⟩:=qej ts hg e he
 rw [b1,ob_s]
 cases hb:b with
 | false=>exact ⟨_,rfl⟩
 | true=>
 simp only [Bool.not_true,cond_false,qap,qba,qab]
 by_cases c1:((s1.length:Nat):Int)=((ps.length:Nat):Int)
 ·rw [if_neg (fun h=>h c1)]
  by_cases c2:((s2.length:Nat):Int)=((vs.length:Nat):Int)
  ·rw [if_neg (fun h=>h c2)]
   exact eval_loop s1 s2 (by omega) (by omega) e he.1 (b2 hb).2 e.length 0 1000000 [] (by omega) (by have:=he.1;omega) (by simp)
  ·rw [if_pos c2];exact ⟨_,rfl⟩
 ·rw [if_pos c1];exact ⟨_,rfl⟩
abbrev Stt:=List Int×List Int
structure goodSt (vs:List Vrb) (ps:List Pcs) (s:Stt):Prop where
 l1:s.1.length=ps.length
 l2:s.2.length=vs.length
 p:∀ i,i<ps.length→0≤s.1.getD i (Ty.dflt ty3)∧s.1.getD i (Ty.dflt ty3)<((ps.getD i (Ty.dflt ty65)).2.length:Int)
 v:∀ i,i<vs.length→(vs.getD i (Ty.dflt ty61)).2.1≤s.2.getD i (Ty.dflt ty3)∧s.2.getD i (Ty.dflt ty3)≤(vs.getD i (Ty.dflt ty61)).2.2.1
theorem getD_app {α:Type} {l:List α} {x d:α} {j:Nat}:(l++[x]).getD j d=if j<l.length then l.getD j d else if j=l.length then x else d:=by
 simp only [List.getD_eq_getElem?_getD]
 by_cases h:j<l.length
 ·rw [if_pos h,List.getElem?_append_left h]
 ·rw [if_neg h,List.getElem?_append_right (by omega)]
  by_cases h2:j=l.length
  ·rw [if_pos h2,h2];simp
  ·rw [if_neg h2,List.getElem?_eq_none (by simp;omega)];rfl
noncomputable abbrev stR (vs:List Vrb) (ps:List Pcs) (ts:List Trn) (x:Int):=R26 M40 vs ps ts x
theorem st_l1 (hM:goodM vs ps) (x:Int) (L:List Int) (h1:L.length=ps.length) (hp:∀ i,i<ps.length→0≤L.getD i (Ty.dflt ty3)∧L.getD i (Ty.dflt ty3)<((ps.getD i (Ty.dflt ty65)).2.length:Int)) :
  ∀ (t i n:Nat) (V:List Int),i+t=vs.length→t<n→V.length=i→(∀ j,j<i→(vs.getD j (Ty.dflt ty61)).2.1≤V.getD j (Ty.dflt ty3)∧V.getD j (Ty.dflt ty3)≤(vs.getD j (Ty.dflt ty61)).2.2.1)→∃ s,stR vs ps ts x n (.l1 i L V)=some s∧goodSt vs ps s
 | t,i,0,V,hi,hn,hv,hk=>by omega
 | 0,i,n+1,V,hi,hn,hv,hk=>by
   show ∃ s,T26 Ops.std _ vs ps ts x _ some _=some s∧_
   unfold T26
   simp only [qaj,qab]
   rw [if_neg (by omega)]
   exact ⟨_,rfl,h1,by show V.length=_;omega,hp,fun j hj=>hk j (by omega)⟩
 | t+1,i,n+1,V,hi,hn,hv,hk=>by
   have hvl:=hM.vl
   have ih:=fun V=>st_l1 hM x L h1 hp t (i+1) n V (by omega) (by omega)
   obtain ⟨y,hy⟩:∃ y,vs.getD i (Ty.dflt ty61)=y:=⟨_,rfl⟩
   have ho:okVar y:=by rw [←hy];exact hM.v _ (qbo (by omega) _)
   obtain ⟨o1,o2,o3,o4⟩:=ho
   show ∃ s,T26 Ops.std _ vs ps ts x _ some _=some s∧_
   unfold T26
   have hw:IntKind.wrap IntKind.i64 (3+IntKind.wrap IntKind.i64 (4*(i:Int)))=((4*i+3:Nat):Int):=by rw [wrap64 (n:=4*(i:Int)) (by omega) (by omega),wrap64 (by omega) (by omega)];omega
   have hN:IntKind.wrap IntKind.i64 (IntKind.wrap IntKind.i64 (y.2.2.1-y.2.1)+1)=(((y.2.2.1-y.2.1+1).toNat:Nat):Int):=by rw [wrap64 (n:=y.2.2.1-y.2.1) (by omega) (by omega),wrap64 (by omega) (by omega)];omega
   simp only [qaj,qap,qal,qau,qab,qaf,hy,hw,hN,mt,List.length_cons,List.length_nil,show IntKind.wrap IntKind.i64 ((i:Int)+1)=((i+1:Nat):Int) from qag (by omega)]
   obtain ⟨k,k1,k2⟩:=pickN (IntKind.wrap IntKind.i64 (Int.tdiv x ((4*i+3:Nat):Int))) (y.2.2.1-y.2.1+1).toNat (by omega) (by omega)
   rw [if_pos (by omega),if_pos (by omega),if_neg (by omega),if_pos (by omega),if_pos (by omega),k2,ob_s,if_pos (by omega),wrap64 (n:=y.2.1+(k:Int)) (by omega) (by omega)]
   refine ih _ (by simp;omega) fun j hj=>?_
   rw [getD_app]
   by_cases h:j<V.length
   ·rw [if_pos h];exact hk j (by omega)
   ·rw [if_neg h,if_pos (by omega),show j=i by omega,hy];exact ⟨by omega,by omega⟩
theorem st_l0 (hM:goodM vs ps) (x:Int):∀ (t i n:Nat) (L:List Int),i+t=ps.length→t+10<n→L.length=i→(∀ j,j<i→0≤L.getD j (Ty.dflt ty3)∧L.getD j (Ty.dflt ty3)<((ps.getD j (Ty.dflt ty65)).2.length:Int))→∃ s,stR vs ps ts x n (.l0 i L)=some s∧goodSt vs ps s
 | t,i,0,L,hi,hn,hv,hk=>by omega
 | 0,i,n+1,L,hi,hn,hv,hk=>by
   have hvl:=hM.vl
   show ∃ s,T26 Ops.std _ vs ps ts x _ some _=some s∧_
   unfold T26
   simp only [qaj,qab]
   rw [if_neg (by omega)]
   exact st_l1 hM x L (by omega) (fun j hj=>hk j (by omega)) vs.length 0 n [] (by omega) (by omega) rfl (fun j hj=>by omega)
 | t+1,i,n+1,L,hi,hn,hv,hk=>by
   have hpl:=hM.pl
   have ih:=fun L=>st_l0 hM x t (i+1) n L (by omega) (by omega)
   obtain ⟨y,hy⟩:∃ y,ps.getD i (Ty.dflt ty65)=y:=⟨_,rfl⟩
   have ho:1≤y.2.length∧y.2.length≤6:=by rw [←hy];exact hM.p _ (qbo (by omega) _)
   show ∃ s,T26 Ops.std _ vs ps ts x _ some _=some s∧_
   unfold T26
   have hw:IntKind.wrap IntKind.i64 (1+(i:Int))=((i+1:Nat):Int):=by rw [wrap64 (by omega) (by omega)];omega
   simp only [qaj,qap,qal,qau,qab,qaf,hy,hw,mt,List.length_cons,List.length_nil,show IntKind.wrap IntKind.i64 ((i:Int)+1)=((i+1:Nat):Int) from qag (by omega)]
   obtain ⟨k,k1,k2⟩:=pickN (IntKind.wrap IntKind.i64 (Int.tdiv x ((i+1:Nat):Int))) y.2.length (by omega) (by omega)
   rw [if_pos (by omega),if_neg (by omega),if_pos (by omega),k2,ob_s,if_pos (by omega)]
   refine ih _ (by simp;omega) fun j hj=>?_
   rw [getD_app]
   by_cases h:j<L.length
   ·rw [if_pos h];exact hk j (by omega)
   ·rw [if_neg h,if_pos (by omega),show j=i by omega,hy];exact ⟨by omega,by omega⟩
theorem State_ok (hM:goodM vs ps) (x:Int):∃ s,M26 vs ps ts x=some s∧goodSt vs ps s:=by
 have hpl:=hM.pl
 show ∃ s,T26 Ops.std M40 vs ps ts x (stR vs ps ts x 1000000) some none=some s∧_
 unfold T26
 exact st_l0 hM x ps.length 0 1000000 [] (by omega) (by omega) rfl (fun j hj=>by omega)
end
abbrev Stp:=Stt×List Int
section
variable {vs:List Vrb} {ps:List Pcs} {ts:List Trn}
noncomputable abbrev wdR (vs:List Vrb) (ps:List Pcs) (ts:List Trn) (a b:List Int):=R10 M26 vs ps ts a b
theorem mem_app1 {P:Stp→Prop} {l:List Stp} {x:Stp} (h:∀ y∈l,P y) (hx:P x):∀ y∈l++[x],P y:=fun y hy=>by
 rcases List.mem_append.mp hy with h' | h'
 ·exact h y h'
 ·rw [List.mem_singleton.mp h'];exact hx
def wordOk (vs:List Vrb) (ps:List Pcs) (w:List Stp×List Stp):Prop:=w.1.length≤6∧1≤w.2.length∧w.2.length≤6∧(∀ x∈w.1,goodSt vs ps x.1)∧∀ x∈w.2,goodSt vs ps x.1
theorem wd_end (hM:goodM vs ps) (st cy:List Stp) (h1:st.length≤6) (h2:cy.length≤6) (k1:∀ x∈st,goodSt vs ps x.1) (k2:∀ x∈cy,goodSt vs ps x.1) (k:(List Stp×List Stp)→Option (List Stp×List Stp)) (hk:k=some) :
  ∃ w,(if ((cy.length:Nat):Int)=0 then ob (M26 vs ps ts 0) (fun y=>k (st,[((y.1,y.2),[])])) else k (st,cy))=some w∧wordOk vs ps w:=by
 subst hk
 by_cases h:((cy.length:Nat):Int)=0
 ·obtain ⟨s,s1,s2⟩:=State_ok (ts:=ts) hM 0
  rw [if_pos h,s1,ob_s]
  exact ⟨_,rfl,h1,by simp,by simp,k1,fun x hx=>by rw [List.mem_singleton.mp hx];exact s2⟩
 ·rw [if_neg h]
  exact ⟨_,rfl,h1,by show 1≤cy.length;omega,h2,k1,k2⟩
theorem wd_l1 (hM:goodM vs ps) (a b:List Int) (st:List Stp) (h1:st.length≤6) (k1:∀ x∈st,goodSt vs ps x.1):∀ (t i n:Nat) (cy:List Stp),i+t=6→t<n→cy.length=i→(∀ x∈cy,goodSt vs ps x.1)→∃ w,wdR vs ps ts a b n (.l1 i st cy)=some w∧wordOk vs ps w
 | t,i,0,cy,hi,hn,hl,hk=>by omega
 | t,i,n+1,cy,hi,hn,hl,hk=>by
   have he:=wd_end (ts:=ts) hM st cy h1 (by omega) k1 hk some rfl
   show ∃ w,T10 Ops.std _ vs ps ts a b _ some _=some w∧_
   unfold T10
   simp only [qaj,qap,qal,qau,qab,qaf,mt,List.length_cons,List.length_nil]
   by_cases c1:(i:Int)<((b.length:Nat):Int)
   ·rw [if_pos c1]
    by_cases c2:(i:Int)<6
    ·obtain ⟨t,rfl⟩:∃ t',t=t'+1:=⟨t-1,by omega⟩
     obtain ⟨s,s1,s2⟩:=State_ok (ts:=ts) hM (b.getD i (Ty.dflt ty3))
     rw [if_pos c2,if_pos (by omega),s1,ob_s,if_pos (by omega),show IntKind.wrap IntKind.i64 ((i:Int)+1)=((i+1:Nat):Int) from qag (by omega)]
     exact wd_l1 hM a b st h1 k1 t (i+1) n _ (by omega) (by omega) (by simp [hl]) (mem_app1 hk s2)
    ·rw [if_neg c2];exact he
   ·rw [if_neg c1];exact he
theorem wd_l0 (hM:goodM vs ps) (a b:List Int):∀ (t i n:Nat) (st:List Stp),i+t=6→t+10<n→st.length=i→(∀ x∈st,goodSt vs ps x.1)→∃ w,wdR vs ps ts a b n (.l0 i st)=some w∧wordOk vs ps w
 | t,i,0,cy,hi,hn,hl,hk=>by omega
 | t,i,n+1,st,hi,hn,hl,hk=>by
   have he:=wd_l1 (ts:=ts) hM a b st (by omega) hk 6 0 n [] (by omega) (by omega) rfl (fun x hx=>by cases hx)
   show ∃ w,T10 Ops.std _ vs ps ts a b _ some _=some w∧_
   unfold T10
   simp only [qaj,qap,qal,qau,qab,qaf,mt,List.length_cons,List.length_nil]
   by_cases c1:(i:Int)<((a.length:Nat):Int)
   ·rw [if_pos c1]
    by_cases c2:(i:Int)<6
    ·obtain ⟨t,rfl⟩:∃ t',t=t'+1:=⟨t-1,by omega⟩
     obtain ⟨s,s1,s2⟩:=State_ok (ts:=ts) hM (a.getD i (Ty.dflt ty3))
     rw [if_pos c2,if_pos (by omega),s1,ob_s,if_pos (by omega),show IntKind.wrap IntKind.i64 ((i:Int)+1)=((i+1:Nat):Int) from qag (by omega)]
     exact wd_l0 hM a b t (i+1) n _ (by omega) (by omega) (by simp [hl]) (mem_app1 hk s2)
    ·rw [if_neg c2];exact he
   ·rw [if_neg c1];exact he
theorem Word_ok (hM:goodM vs ps) (a b:List Int):∃ w,M10 vs ps ts a b=some w∧wordOk vs ps w:=by
 show ∃ w,T10 Ops.std M26 vs ps ts a b (wdR vs ps ts a b 1000000) some none=some w∧_
 unfold T10
 exact wd_l0 hM a b 6 0 1000000 [] (by omega) (by omega) rfl (fun x hx=>by cases hx)
noncomputable abbrev ftR (vs:List Vrb) (ps:List Pcs) (ts:List Trn) (s1 s2:List Int):=R80 vs ps ts s1 s2
theorem ft_l1 (hv:vs.length≤100000) {s:Stt} (hs:goodSt vs ps s):∀ (t i n:Nat),i+t=vs.length→t<n→ftR vs ps ts s.1 s.2 n (.l1 i)=some true
 | t,i,0,hi,hn=>by omega
 | 0,i,n+1,hi,hn=>by
   have h2:=hs.l2
   show T80 Ops.std vs ps ts s.1 s.2 _ some _=_
   unfold T80
   simp only [qaj,qab]
   rw [if_neg (by omega)]
 | t+1,i,n+1,hi,hn=>by
   have h2:=hs.l2
   obtain ⟨v1,v2⟩:=hs.v i (by omega)
   show T80 Ops.std vs ps ts s.1 s.2 _ some _=_
   unfold T80
   simp only [qaj,qax,qal,qab,qaf]
   rw [if_pos (by omega),if_pos (by omega),if_pos (by omega),if_neg (by omega),if_pos (by omega),if_pos (by omega),if_neg (by omega),show IntKind.wrap IntKind.i64 ((i:Int)+1)=((i+1:Nat):Int) from qag (by omega)]
   exact ft_l1 hv hs t (i+1) n (by omega) (by omega)
theorem ft_l0 (hv:vs.length≤100000) (hp:ps.length≤100000) {s:Stt} (hs:goodSt vs ps s):∀ (t i n:Nat),i+t=ps.length→t+100010<n→ftR vs ps ts s.1 s.2 n (.l0 i)=some true
 | t,i,0,hi,hn=>by omega
 | 0,i,n+1,hi,hn=>by
   have h1:=hs.l1
   show T80 Ops.std vs ps ts s.1 s.2 _ some _=_
   unfold T80
   simp only [qaj,qab]
   rw [if_neg (by omega)]
   exact ft_l1 hv hs vs.length 0 n (by omega) (by omega)
 | t+1,i,n+1,hi,hn=>by
   have h1:=hs.l1
   obtain ⟨v1,v2⟩:=hs.p i (by omega)
   show T80 Ops.std vs ps ts s.1 s.2 _ some _=_
   unfold T80
   simp only [qaj,qax,qal,qab,qaf]
   rw [if_pos (by omega),if_pos (by omega),if_neg (by omega),if_pos (by omega),if_pos (by omega),if_neg (by omega),show IntKind.wrap IntKind.i64 ((i:Int)+1)=((i+1:Nat):Int) from qag (by omega)]
   exact ft_l0 hv hp hs t (i+1) n (by omega) (by omega)
theorem fits_ok (hM:goodM vs ps) {s:Stt} (hs:goodSt vs ps s):M80 vs ps ts s.1 s.2=some true:=by
 have hpl:=hM.pl
 have hvl:=hM.vl
 have h1:=hs.l1
 have h2:=hs.l2
 show T80 Ops.std vs ps ts s.1 s.2 (ftR vs ps ts s.1 s.2 1000000) some none=_
 unfold T80
 simp only [qap,qba,qab]
 rw [if_neg (fun h=>h (by omega)),if_neg (fun h=>h (by omega))]
 exact ft_l0 (by omega) (by omega) hs ps.length 0 1000000 (by omega) (by omega)
theorem RightState_ok (hR:M8 vs ps ts=some true) (hM:goodM vs ps) {s:Stt} (hs:goodSt vs ps s):M56 vs ps ts s.1 s.2=some true:=by
 show T56 Ops.std M8 M80 vs ps ts s.1 s.2 some=_
 unfold T56
 rw [hR,ob_s]
 simp only [Bool.not_true,cond_false]
 rw [fits_ok hM hs,ob_s]
theorem at_ok (st cy:List Stp) (i:Nat) (hi:i<st.length+cy.length) (h1:st.length≤1000000) (h2:cy.length≤1000000):M30 st cy (i:Nat)=some (((st++cy).getD i (Ty.dflt ty79)).1.1,((st++cy).getD i (Ty.dflt ty79)).1.2,((st++cy).getD i (Ty.dflt ty79)).2):=by
 show T30 Ops.std st cy (i:Nat) some=_
 unfold T30
 simp only [qaj,qal,qab,qaf]
 by_cases h:i<st.length
 ·rw [if_pos (by omega),if_pos (by omega)]
  simp only [List.getD_eq_getElem?_getD,List.getElem?_append_left h]
 ·have hw:IntKind.wrap IntKind.i64 ((i:Int)-(st.length:Int))=((i-st.length:Nat):Int):=by
   rw [wrap64 (by omega) (by omega)];omega
  rw [if_neg (by omega),hw,if_pos (by omega)]
  simp only [qaf,List.getD_eq_getElem?_getD,List.getElem?_append_right (Nat.le_of_not_lt h)]
end
section
variable {n back:Nat} (hb:back<n)
def eqB (n:Nat) (o p:Nat→Bool):Prop:=∀ i,i<n→o i=p i
include hb in
theorem lf_congr {g g':Nat→Bool→Bool} (hg:mono g) (hg':mono g') (h:∀ i x,i<n→g i x=g' i x):eqB n (lf n back g) (lf n back g'):=by
 refine leB_eq (lf_least hg hb _ fun i hi e=>?_) (lf_least hg' hb _ fun i hi e=>?_)
 ·rw [lf_fix hg' hb i hi,←h _ _ hi];exact e
 ·rw [lf_fix hg hb i hi,h _ _ hi];exact e
include hb in
theorem gf_congr {g g':Nat→Bool→Bool} (hg:mono g) (hg':mono g') (h:∀ i x,i<n→g i x=g' i x):eqB n (gf n back g) (gf n back g'):=by
 refine leB_eq (qe4 hg' hb _ fun i hi e=>?_) (qe4 hg hb _ fun i hi e=>?_)
 ·rw [gf_fix hg hb i hi] at e;rw [←h _ _ hi];exact e
 ·rw [gf_fix hg' hb i hi] at e;rw [h _ _ hi];exact e
theorem ruF_mono (a:Nat→Bool):mono (ruF a):=fun i h=>by unfold ruF at *;simp at h;simp [h]
theorem ruG_mono (a:Nat→Bool):mono (ruG a):=fun i h=>by unfold ruG at *;simp at h
include hb in
theorem sem2_congr (k:Int) {a a' b b':Nat→Bool} (ha:eqB n a a') (hb':eqB n b b'):eqB n (sem2 n back k a b) (sem2 n back k a' b'):=by
 unfold sem2
 split
 ·intro i hi;simp only;rw [ha i hi,hb' i hi]
 ·split
  ·intro i hi;simp only;rw [ha i hi,hb' i hi]
  ·split
   ·intro i hi;simp only;rw [ha i hi,hb' i hi]
   ·split
    ·exact lf_congr hb (ruU_mono _ _) (ruU_mono _ _) fun i x hi=>by unfold ruU;rw [ha i hi,hb' i hi]
    ·exact gf_congr hb (ruR_mono _ _) (ruR_mono _ _) fun i x hi=>by unfold ruR;rw [ha i hi,hb' i hi]
include hb in
theorem sem1_congr (k:Int) {a a':Nat→Bool} (ha:eqB n a a'):eqB n (sem1 n back k a) (sem1 n back k a'):=by
 unfold sem1
 split
 ·intro i hi;simp only;rw [ha i hi]
 ·split
  ·intro i hi;exact ha _ (nx_lt n back hb hi)
  ·split
   ·exact lf_congr hb (ruF_mono _) (ruF_mono _) fun i x hi=>by unfold ruF;rw [ha i hi]
   ·exact gf_congr hb (ruG_mono _) (ruG_mono _) fun i x hi=>by unfold ruG;rw [ha i hi]
variable (V:List Trm→Nat→Bool)
end
def rowL (n:Nat) (o:Nat→Bool):List Bool:=(List.range n).map o
theorem qcf (n:Nat) (o:Nat→Bool):(rowL n o).length=n:=by simp [rowL]
theorem qc7 (n:Nat) (o:Nat→Bool) (i:Nat) (hi:i<n):fnB (rowL n o) i=o i:=by
 unfold fnB rowL
 rw [List.getD_eq_getElem?_getD,List.getElem?_map,List.getElem?_range hi];rfl
theorem rowL_eq {n:Nat} {o:Nat→Bool} {l:List Bool} (hl:l.length=n) (h:∀ i,i<n→fnB l i=o i):l=rowL n o:=by
 apply List.ext_getElem?
 intro i
 by_cases hi:i<n
 ·have h1:=h i hi
  have h2:=qc7 n o i hi
  unfold fnB at h1 h2
  have hr:i<(rowL n o).length:=by rw [qcf];exact hi
  rw [List.getD_eq_getElem?_getD,List.getElem?_eq_getElem (by omega)] at h1
  rw [List.getD_eq_getElem?_getD,List.getElem?_eq_getElem hr] at h2
  rw [List.getElem?_eq_getElem (by omega),List.getElem?_eq_getElem hr]
  simp only [Option.getD_some] at h1 h2
  rw [h1,h2]
 ·rw [List.getElem?_eq_none (by omega),List.getElem?_eq_none (by rw [qcf];omega)]
theorem qdz {op:Int} {a b:List Bool} {n back:Nat} (hb:back<n) (hn:n≤100) (hop:0≤opn op) (hl:lensOk op a b n) {o:Nat→Bool} (h:∀ i,i<n→rowOK op (fnB a) (fnB b) n back i=o i):M31 op a b (n:Nat) (back:Nat)=some (rowL n o):=by
 obtain ⟨out,h1,h2,h3⟩:=truths_ok op a b n back hb hn hop hl
 rw [h1,rowL_eq h2 fun i hi=>(h3 i hi).trans (h i hi)]
theorem post_back {A:Type} (val:Fm Trm→A) (d:A) {E:List Trm→Bool} {f:List Prt} {K:List (List Int)} (Ok:Fm Trm→Prop) (hun':∀ p a,Ok (.un p a)→Ok a) (hbi':∀ p a c,Ok (.bi p a c)→Ok a∧Ok c) (P:Nat→List A→Prop)
  (hnul:∀ i p done,(Fm.nul p:Fm Trm).wf E→Ok (.nul p)→i<f.length→i<K.length→done.length=i→f.getD i (Ty.dflt ty73)=p→K.getD i (Ty.dflt ty22)=[]→P (i+1) (done++[val (.nul p)])→P i done)
  (hun:∀ i p a (j:Nat) done,(Fm.un p a).wf E→Ok (.un p a)→i<f.length→i<K.length→done.length=i→f.getD i (Ty.dflt ty73)=p→K.getD i (Ty.dflt ty22)=[(j:Int)]→j<i→done.getD j d=val a→P (i+1) (done++[val (.un p a)])→P i done)
  (hbi:∀ i p a c (j k:Nat) done,(Fm.bi p a c).wf E→Ok (.bi p a c)→i<f.length→i<K.length→done.length=i→f.getD i (Ty.dflt ty73)=p→K.getD i (Ty.dflt ty22)=[(j:Int),(k:Int)]→j<i→k<i→done.getD j d=val a→done.getD k d=val c→P (i+1) (done++[val (.bi p a c)])→P i done) :
  ∀ (t:Fm Trm),t.wf E→Ok t→∀ (b:Nat),At f K t b→∀ (done:List A),done.length=b→P (b+t.size) (done++t.post val)→P b done:=by
 intro t
 induction t with
 | nul p=>
   intro ht hok b hat done hd hP
   have hr:=hat.root (Ty.dflt ty73)
   have hk:=hat.last (Ty.dflt ty22)
   have hlen:=hat.len
   simp only [Fm.size,Fm.root,Fm.last,Nat.add_sub_cancel,Fm.post] at hr hk hlen hP ⊢
   exact hnul b p done ht hok (by omega) (by omega) hd hr hk hP
 | un p a ih=>
   intro ht hok b hat done hd hP
   have hr:=hat.root (Ty.dflt ty73)
   have hk:=hat.last (Ty.dflt ty22)
   have hlen:=hat.len
   have hsa:=a.size_pos
   have hi:b+(Fm.un p a).size-1=b+a.size:=by simp only [Fm.size];omega
   rw [hi] at hr hk
   simp only [Fm.size,Fm.root,Fm.last,Fm.post] at hr hk hlen hP ⊢
   have hg:=qei val d a done []
   rw [List.append_nil,hd] at hg
   refine ih ht.2.2 (hun' p a hok) b hat.un done hd ?_
   refine hun (b+a.size) p a (b+a.size-1) (done++a.post val) ht hok (by omega) (by omega) (by simp [qbn,hd]) hr hk (by omega) hg ?_
   rw [List.append_assoc,show b+a.size+1=b+(a.size+1) by omega]
   exact hP
 | bi p a c iha ihc=>
   intro ht hok b hat done hd hP
   have hr:=hat.root (Ty.dflt ty73)
   have hk:=hat.last (Ty.dflt ty22)
   have hlen:=hat.len
   have hsa:=a.size_pos
   have hsc:=c.size_pos
   have hi:b+(Fm.bi p a c).size-1=b+a.size+c.size:=by simp only [Fm.size];omega
   rw [hi] at hr hk
   simp only [Fm.size,Fm.root,Fm.last,Fm.post] at hr hk hlen hP ⊢
   obtain ⟨oka,okc⟩:=hbi' p a c hok
   have hg:=qei val d a done (c.post val)
   rw [hd] at hg
   have hg2:=qei val d c (done++a.post val) []
   rw [List.append_nil,show (done++a.post val).length=b+a.size by simp [qbn,hd]] at hg2
   refine iha ht.2.2.1 oka b hat.bi1 done hd ?_
   refine ihc ht.2.2.2 okc (b+a.size) hat.bi2 (done++a.post val) (by simp [qbn,hd]) ?_
   refine hbi (b+a.size+c.size) p a c (b+a.size-1) (b+a.size+c.size-1) (done++a.post val++c.post val) ht hok (by omega) (by omega) (by simp [qbn,hd];omega) hr hk (by omega) (by omega) hg hg2 ?_
   rw [show done++a.post val++c.post val++[val (Fm.bi p a c)]=done++(a.post val++c.post val++[val (Fm.bi p a c)]) by simp,show b+a.size+c.size+1=b+(a.size+c.size+1) by omega]
   exact hP
section
variable (vs:List Vrb) (ps:List Pcs) (ts:List Trn)
noncomputable def knB (e:List Trm):Bool:=(M24 vs ps ts e).getD false
def atmOk (f:List Prt):Prop:=∀ p∈f,p.1=3→shortE p.2
noncomputable def knA (f:List Prt):Bool:=f.all fun p=>if p.1=3 then knB vs ps ts p.2 else true
noncomputable abbrev k3R (f:List Prt):=R9 M24 M25 vs ps ts f
variable {vs ps}
theorem qd9 (hg:smallG vs ps) (f:List Prt) (hf:f.length≤60) (ha:atmOk f) (hr:M25 f=some true):∀ (t i n:Nat),i+t=f.length→t<n→k3R vs ps ts f n (.l0 i)=some (knA vs ps ts (f.drop i))
 | t,i,0,hi,hn=>by omega
 | 0,i,n+1,hi,hn=>by
   show T9 Ops.std _ _ vs ps ts f _ some _=_
   unfold T9
   simp only [qaj,qab]
   rw [if_neg (by omega),List.drop_eq_nil_of_le (by omega),hr]
   rfl
 | t+1,i,n+1,hi,hn=>by
   have hlt:i<f.length:=by omega
   have ih:=qd9 hg f hf ha hr t (i+1) n (by omega) (by omega)
   have hm:f.getD i (Ty.dflt ty73)∈f:=qbo hlt _
   show T9 Ops.std _ _ vs ps ts f _ some _=_
   unfold T9
   rw [qbp (Ty.dflt ty73) hlt]
   simp only [qaj,qap,qal,qab,qaf,show IntKind.wrap IntKind.i64 ((i:Int)+1)=((i+1:Nat):Int) from qag (by omega)]
   generalize f.getD i (Ty.dflt ty73)=p at hm ⊢
   unfold knA at ih ⊢
   rw [List.all_cons,if_pos (by omega),if_pos (by omega)]
   by_cases h3:p.1=3
   ·obtain ⟨b,b1,b2⟩:=qej ts hg p.2 (ha p hm h3)
    have hb:knB vs ps ts p.2=b:=by unfold knB;rw [b1];rfl
    rw [if_pos h3,if_pos h3,if_pos (by omega),b1,ob_s,hb]
    cases b with
    | false=>rfl
    | true=>simp only [Bool.not_true,cond_false,Bool.true_and];exact ih
   ·rw [if_neg h3,if_neg h3,Bool.true_and]
    exact ih
theorem qft (hg:smallG vs ps) (f:List Prt) (hf:f.length≤60) (ha:atmOk f) (hr:M25 f=some true):M9 vs ps ts f=some (knA vs ps ts f):=by
 show T9 Ops.std M24 M25 vs ps ts f (k3R vs ps ts f 1000000) some none=_
 unfold T9
 exact qd9 ts hg f hf ha hr f.length 0 1000000 (by omega) (by omega)
theorem hz1 (k:Int):([k]:List Int).getD (Int.toNat 0) (Ty.dflt (Ty.int IntKind.i64))=k:=rfl
theorem hz20 (k l:Int):([k,l]:List Int).getD (Int.toNat 0) (Ty.dflt (Ty.int IntKind.i64))=k:=rfl
theorem hz21 (k l:Int):([k,l]:List Int).getD (Int.toNat 1) (Ty.dflt (Ty.int IntKind.i64))=l:=rfl
variable (vs ps) in
noncomputable def valE (w:List Stp) (e:List Trm) (i:Nat):Bool:=!decide ((M29 vs ps ts (w.getD i (Ty.dflt ty79)).1.1 (w.getD i (Ty.dflt ty79)).1.2 e).getD 0=0)
variable (vs ps) in
noncomputable abbrev alR (f:List Prt) (st cy:List Stp):=R11 M9 M27 M28 M30 M29 M31 vs ps ts f st cy
section
variable (hg:smallG vs ps) (f:List Prt) (hf:f.length≤60) (st cy:List Stp) (hst:st.length≤6) (hcy:cy.length≤6) (n:Nat) (hn:n=st.length+cy.length)
include hg hf hst hcy hn in
theorem al_l1 (i:Nat) (hi:i<f.length) (K:List (List Int)) (rows:List (List Bool)) (hrl:rows.length≤60) (p:Prt) (hp:f.getD i (Ty.dflt ty73)=p) (hsh:shortE p.2) (D:Nat) (X:Option (List (List Bool))) (hX:∀ m,D<m→alR vs ps ts f st cy m (.l0 (n:Nat) ((i+1:Nat):Int) K (rows++[rowL n (valE vs ps ts (st++cy) p.2)]))=X) :
  ∀ (t c m:Nat),c+t=n→D+t+1<m→∀ (row:List Bool),row.length=n→(∀ j,j<c→fnB row j=valE vs ps ts (st++cy) p.2 j)→alR vs ps ts f st cy m (.l1 (n:Nat) (i:Nat) (c:Nat) K rows row)=X
 | t,c,0,hc,hm,row,hr,hk=>by omega
 | 0,c,m+1,hc,hm,row,hr,hk=>by
   show T11 Ops.std _ _ _ _ _ _ vs ps ts f st cy _ some _=_
   unfold T11
   simp only [qaj,qau,qab,mt,List.length_cons,List.length_nil]
   rw [if_neg (by omega),if_pos (by omega),show IntKind.wrap IntKind.i64 ((i:Int)+1)=((i+1:Nat):Int) from qag (by omega),rowL_eq hr fun j hj=>hk j (by omega)]
   exact hX m (by omega)
 | t+1,c,m+1,hc,hm,row,hr,hk=>by
   show T11 Ops.std _ _ _ _ _ _ vs ps ts f st cy _ some _=_
   unfold T11
   simp only [qaj,qap,qal,qab,qaf,hp,hr]
   rw [if_pos (by omega),if_pos (by omega),at_ok st cy c (by omega) (by omega) (by omega),ob_s]
   obtain ⟨v,hv⟩:=eval_ok (ts:=ts) hg ((st++cy).getD c (Ty.dflt ty79)).1.1 ((st++cy).getD c (Ty.dflt ty79)).1.2 p.2 hsh
   have hval:valE vs ps ts (st++cy) p.2 c=!decide (v=0):=by unfold valE;rw [hv];rfl
   simp only [hv,ob_s]
   rw [if_pos (by omega),show IntKind.wrap IntKind.i64 ((c:Int)+1)=((c+1:Nat):Int) from qag (by omega)]
   refine al_l1 i hi K rows hrl p hp hsh D X hX t (c+1) m (by omega) (by omega) _ (by simp [hr]) fun j hj=>?_
   rw [fnB_set _ _ (by omega)]
   by_cases h:j=c
   ·rw [if_pos h,h,hval]
   ·rw [if_neg h];exact hk j (by omega)
end
theorem qcu (hR:M8 vs ps ts=some true) (hM:goodM vs ps) (w:List Stp×List Stp) (hw:wordOk vs ps w):∀ (t i n:Nat),i+t=w.1.length+w.2.length→t<n→
  R27 M8 M30 M56 vs ps ts w.1 w.2 n (.l0 i)=some true
 | t,i,0,hi,hn=>by omega
 | 0,i,n+1,hi,hn=>by
   obtain ⟨w1,w2,w3,w4,w5⟩:=hw
   show T27 Ops.std _ _ _ vs ps ts w.1 w.2 _ some _=_
   unfold T27
   simp only [qaj,qab,wrap64 (show -9223372036854775808≤(w.1.length:Int)+(w.2.length:Int) by omega) (by omega)]
   rw [if_neg (by omega)]
 | t+1,i,n+1,hi,hn=>by
   have ih:=qcu hR hM w hw t (i+1) n (by omega) (by omega)
   obtain ⟨w1,w2,w3,w4,w5⟩:=hw
   show T27 Ops.std _ _ _ vs ps ts w.1 w.2 _ some _=_
   unfold T27
   simp only [qaj,qab,wrap64 (show -9223372036854775808≤(w.1.length:Int)+(w.2.length:Int) by omega) (by omega)]
   rw [if_pos (by omega),at_ok w.1 w.2 i (by omega) (by omega) (by omega),ob_s]
   have hmem:(w.1++w.2).getD i (Ty.dflt ty79)∈w.1++w.2:=qbo (by simp;omega) _
   have hgs:goodSt vs ps ((w.1++w.2).getD i (Ty.dflt ty79)).1:=by
    rcases List.mem_append.mp hmem with h | h
    ·exact w4 _ h
    ·exact w5 _ h
   simp only [RightState_ok hR hM hgs,ob_s,Bool.not_true,cond_false,show IntKind.wrap IntKind.i64 ((i:Int)+1)=((i+1:Nat):Int) from qag (by omega)]
   exact ih
theorem RightLasso_ok (hR:M8 vs ps ts=some true) (hM:goodM vs ps) (w:List Stp×List Stp) (hw:wordOk vs ps w):M27 vs ps ts w.1 w.2=some true:=by
 have hl:=qcu ts hR hM w hw (w.1.length+w.2.length) 0 1000000 (by omega) (by have:=hw.1;have:=hw.2.2.1;omega)
 obtain ⟨w1,w2,w3,w4,w5⟩:=hw
 show T27 Ops.std M8 M30 M56 vs ps ts w.1 w.2 (R27 M8 M30 M56 vs ps ts w.1 w.2 1000000) some none=_
 unfold T27
 rw [hR,ob_s]
 simp only [Bool.not_true,cond_false,qaj,qab,wrap64 (show -9223372036854775808≤(w.1.length:Int)+(w.2.length:Int) by omega) (by omega)]
 rw [if_neg (by omega),if_neg (by omega)]
 exact hl
theorem wf_atm {t:Fm Trm} (ht:WF t):atmOk t.flat:=fun p hp h3=>qeh ht p hp
noncomputable abbrev allV (vs:List Vrb) (ps:List Pcs) (ts:List Trn) (w:List Stp×List Stp) (u:Fm Trm):List Bool:=rowL (w.1.length+w.2.length) (semT (w.1.length+w.2.length) w.1.length (valE vs ps ts (w.1++w.2)) u)
theorem All_loop (hg:smallG vs ps) (t:Fm Trm) (ht:WF t) (h60:t.size≤60) (w:List Stp×List Stp) (hw:wordOk vs ps w) (R:List (List Bool)):∀ (hend:∀ m,0<m→alR vs ps ts t.flat w.1 w.2 m (.l0 ((w.1.length+w.2.length:Nat):Int) ((t.size:Nat):Int) (t.kids 0) (t.post (allV vs ps ts w)))=some R),∀ m,t.size*(w.1.length+w.2.length+2)<m→alR vs ps ts t.flat w.1 w.2 m (.l0 ((w.1.length+w.2.length:Nat):Int) ((0:Nat):Int) (t.kids 0) [])=some R:=by
 intro hend
 obtain ⟨w1,w2,w3,w4,w5⟩:=hw
 have hlf:=t.flat_len
 have hlk:=t.kids_len 0
 obtain ⟨n,hn⟩:∃ n,w.1.length+w.2.length=n:=⟨_,rfl⟩
 have hb:w.1.length<n:=by omega
 have hfu:∀ i,i<t.size→(t.size-i)*(n+2)=(t.size-(i+1))*(n+2)+(n+2):=fun i hi=>by
  rw [show t.size-i=(t.size-(i+1))+1 by omega,Nat.succ_mul]
 have key:=post_back (allV vs ps ts w) (Ty.dflt ty45) (f:=t.flat) (K:=t.kids 0) (E:=rightE) (fun _=>True) (fun _ _ _=>trivial) (fun _ _ _ _=>⟨trivial,trivial⟩)
  (fun i done=>∀ m,(t.size-i)*(n+2)<m→alR vs ps ts t.flat w.1 w.2 m (.l0 (n:Nat) (i:Nat) (t.kids 0) done)=some R)
 rw [hn] at hend ⊢
 have hval:∀ u,allV vs ps ts w u=rowL n (semT n w.1.length (valE vs ps ts (w.1++w.2)) u):=fun u=>by unfold allV;rw [hn]
 refine key ?_ ?_ ?_ t ht trivial 0 (At.all _) [] rfl ?_
 ·intro i p done hwf _ hi hi2 hd hr hk hX m hm
  have hD:=hfu i (by omega)
  obtain ⟨D,hDe⟩:∃ D,(t.size-(i+1))*(n+2)=D:=⟨_,rfl⟩
  rw [hDe] at hD hX
  rw [hD] at hm
  rw [hval] at hX
  obtain ⟨m,rfl⟩:∃ m',m=m'+1:=⟨m-1,by omega⟩
  show T11 Ops.std _ _ _ _ _ _ vs ps ts t.flat w.1 w.2 _ some _=_
  unfold T11
  have h0n:(0:Int)≤(n:Int):=by omega
  have hlim:n*1≤140737488355328:=by omega
  simp only [qaj,qap,qax,qal,qau,qab,qaf,mt,List.length_cons,List.length_nil,hr,hk,decide_true,h0n,hlim,cond_true]
  rw [if_pos (by omega),if_pos (by omega)]
  by_cases h3:p.1=3
  ·rw [if_pos h3]
   refine al_l1 ts hg t.flat (by omega) w.1 w.2 w1 w3 n hn.symm i hi (t.kids 0) done (by omega) p hr (qb0 (hwf.2.1 h3)) D (some R) ?_ n 0 m (by omega) (by omega) _ (by simp) (fun j hj=>by omega)
   have hs0:semT n w.1.length (valE vs ps ts (w.1++w.2)) (Fm.nul p)=valE vs ps ts (w.1++w.2) p.2:=by
    show sem0 _ p=_
    unfold sem0;rw [if_neg (by omega),if_neg (by omega)]
   rw [hs0] at hX
   exact hX
  ·have h12:=opn0 hwf.1
   rw [if_neg h3,if_pos (by omega),if_neg (by omega),if_pos (by omega),if_neg (by omega),if_pos (by omega)]
   have htr:M31 p.1 [] [] (n:Nat) (w.1.length:Nat)=some (rowL n (semT n w.1.length (valE vs ps ts (w.1++w.2)) (Fm.nul p))):=by
    refine qdz hb (by omega) (by rw [hwf.1];omega) ⟨fun h=>by omega,fun h=>by omega⟩ fun i hi=>?_
    show _=sem0 _ p i
    unfold rowOK sem0
    rcases h12 with h | h | h
    ·rw [if_pos h,if_pos h]
    ·rw [if_neg (by omega),if_pos (by omega),if_neg (by omega),if_pos h]
    ·exact absurd h h3
   rw [htr,ob_s,if_pos (by omega),show IntKind.wrap IntKind.i64 ((i:Int)+1)=((i+1:Nat):Int) from qag (by omega)]
   exact hX m (by omega)
 ·intro i p a j done hwf _ hi hi2 hd hr hk hj hda hX m hm
  have hD:=hfu i (by omega)
  obtain ⟨D,hDe⟩:∃ D,(t.size-(i+1))*(n+2)=D:=⟨_,rfl⟩
  rw [hDe] at hD hX
  rw [hD] at hm
  rw [hval] at hX hda
  obtain ⟨m,rfl⟩:∃ m',m=m'+1:=⟨m-1,by omega⟩
  have ho:=opn1 hwf.1
  show T11 Ops.std _ _ _ _ _ _ vs ps ts t.flat w.1 w.2 _ some _=_
  unfold T11
  simp only [qaj,qap,qax,qal,qau,qab,qaf,mt,List.length_cons,List.length_nil,hr,hk,hz1,hda]
  rw [if_pos (by omega),if_pos (by omega),if_neg (by omega),if_pos (by omega),if_pos (by omega),if_pos (by omega),if_pos (by omega),if_pos (by omega),if_pos (by omega),if_pos (by omega),if_pos (by omega),if_pos (by omega),if_neg (by omega),if_pos (by omega)]
  have htr:M31 p.1 (rowL n (semT n w.1.length (valE vs ps ts (w.1++w.2)) a)) [] (n:Nat) (w.1.length:Nat)=some (rowL n (semT n w.1.length (valE vs ps ts (w.1++w.2)) (Fm.un p a))):=by
   refine qdz hb (by omega) (by rw [hwf.1];omega) ⟨fun h=>qcf _ _,fun h=>by omega⟩ fun i hi=>?_
   unfold rowOK
   rw [if_neg (by omega),if_neg (by omega),if_pos (by omega)]
   exact sem1_congr hb p.1 (fun i hi=>qc7 n _ i hi) i hi
  rw [htr,ob_s,if_pos (by omega),show IntKind.wrap IntKind.i64 ((i:Int)+1)=((i+1:Nat):Int) from qag (by omega)]
  exact hX m (by omega)
 ·intro i p a c j k done hwf _ hi hi2 hd hr hk hj hk2 hda hdc hX m hm
  have hD:=hfu i (by omega)
  obtain ⟨D,hDe⟩:∃ D,(t.size-(i+1))*(n+2)=D:=⟨_,rfl⟩
  rw [hDe] at hD hX
  rw [hD] at hm
  rw [hval] at hX hda hdc
  obtain ⟨m,rfl⟩:∃ m',m=m'+1:=⟨m-1,by omega⟩
  have ho:=opn2 hwf.1
  show T11 Ops.std _ _ _ _ _ _ vs ps ts t.flat w.1 w.2 _ some _=_
  unfold T11
  simp only [qaj,qap,qax,qal,qau,qab,qaf,mt,List.length_cons,List.length_nil,hr,hk,hz20,hz21,hda,hdc]
  rw [if_pos (by omega),if_pos (by omega),if_neg (by omega),if_pos (by omega),if_pos (by omega),if_pos (by omega),if_pos (by omega),if_pos (by omega),if_pos (by omega),if_pos (by omega),if_pos (by omega),if_pos (by omega),if_pos (by omega),if_pos (by omega),if_pos (by omega),if_pos (by omega),if_pos (by omega),if_pos (by omega),if_pos (by omega),if_pos (by omega)]
  have htr:M31 p.1 (rowL n (semT n w.1.length (valE vs ps ts (w.1++w.2)) a)) (rowL n (semT n w.1.length (valE vs ps ts (w.1++w.2)) c)) (n:Nat) (w.1.length:Nat)=some (rowL n (semT n w.1.length (valE vs ps ts (w.1++w.2)) (Fm.bi p a c))):=by
   refine qdz hb (by omega) (by rw [hwf.1];omega) ⟨fun h=>qcf _ _,fun h=>qcf _ _⟩ fun i hi=>?_
   unfold rowOK
   rw [if_neg (by omega),if_neg (by omega),if_neg (by omega)]
   exact sem2_congr hb p.1 (fun i hi=>qc7 n _ i hi) (fun i hi=>qc7 n _ i hi) i hi
  rw [htr,ob_s,if_pos (by omega),show IntKind.wrap IntKind.i64 ((i:Int)+1)=((i+1:Nat):Int) from qag (by omega)]
  exact hX m (by omega)
 ·intro m hm
  simp only [Nat.zero_add,List.nil_append]
  exact hend m (by omega)
theorem All_ok (hR:M8 vs ps ts=some true) (hM:goodM vs ps) (hg:smallG vs ps) (t:Fm Trm) (ht:WF t) (h60:t.size≤60) (hk:knA vs ps ts t.flat=true) (w:List Stp×List Stp) (hw:wordOk vs ps w) :
  M11 vs ps ts t.flat w.1 w.2=some (t.post (allV vs ps ts w)):=by
 have hl:=All_loop ts hg t ht h60 w hw (t.post (allV vs ps ts w)) (fun m hm=>by
  obtain ⟨m,rfl⟩:∃ m',m=m'+1:=⟨m-1,by omega⟩
  have hlf:=t.flat_len
  show T11 Ops.std _ _ _ _ _ _ vs ps ts t.flat w.1 w.2 _ some _=_
  unfold T11
  simp only [qaj,qab]
  rw [if_neg (by omega)]) 1000000 (by
   have h1:=hw.1;have h2:=hw.2.2.1
   have:t.size*(w.1.length+w.2.length+2)≤60*14:=Nat.mul_le_mul h60 (by omega)
   omega)
 have hla:=RightLasso_ok ts hR hM w hw
 obtain ⟨w1,w2,w3,w4,w5⟩:=hw
 show T11 Ops.std M9 M27 M28 M30 M29 M31 vs ps ts t.flat w.1 w.2 (alR vs ps ts t.flat w.1 w.2 1000000) some none=_
 unfold T11
 rw [qft ts hg t.flat (by rw [t.flat_len];exact h60) (wf_atm ht) (T_rightR ht h60),ob_s,hk,hla,ob_s,ref_kids_yes rightE ht h60 (T_rightR ht h60),ob_s,wrap64 (show -9223372036854775808≤(w.1.length:Int)+(w.2.length:Int) by omega) (by omega)]
 exact hl
end
theorem qcv {k:Int} (h:k≠3) (no:Bool):sgn k no≠3:=by
 unfold sgn otherK
 repeat' split
 all_goals omega
theorem nnf_all {E:List Trm→Bool} {P:Prt→Prop} (hP:∀ k:Int,k≠3→P (k,[])) {t:Fm Trm}:t.wf E→(∀ p∈t.flat,P p)→∀ no,∀ p∈(nnfT t no).flat,P p:=by
 induction t with
 | nul p=>
   intro hw h no
   have hp:P p:=h p (List.mem_singleton_self _)
   have h0:=opn0 hw.1
   simp only [nnfT]
   by_cases h3:p.1=3
   ·rw [if_pos h3]
    split
    ·intro q hq
     simp only [Fm.flat,List.mem_append,List.mem_singleton] at hq
     rcases hq with rfl | rfl
     ·exact hp
     ·exact hP _ (by omega)
    ·intro q hq
     simp only [Fm.flat,List.mem_singleton] at hq
     rw [hq];exact hp
   ·rw [if_neg h3]
    intro q hq
    simp only [Fm.flat,List.mem_singleton] at hq
    rw [hq];exact hP _ (qcv h3 no)
 | un p a ih=>
   intro hw h no
   have ha:=ih hw.2.2 fun q hq=>h q (List.mem_append.mpr (.inl hq))
   have h1:=opn1 hw.1
   simp only [nnfT]
   split
   ·exact ha _
   ·split
    ·intro q hq
     simp only [Fm.flat,List.mem_append,List.mem_singleton] at hq
     rcases hq with (rfl | hq) | rfl
     ·exact hP _ (qcv (by omega) no)
     ·exact ha _ q hq
     ·exact hP _ (qcv (by omega) no)
    ·split
     ·intro q hq
      simp only [Fm.flat,List.mem_append,List.mem_singleton] at hq
      rcases hq with (rfl | hq) | rfl
      ·exact hP _ (qcv (by omega) no)
      ·exact ha _ q hq
      ·exact hP _ (qcv (by omega) no)
     ·intro q hq
      simp only [Fm.flat,List.mem_append,List.mem_singleton] at hq
      rcases hq with hq | rfl
      ·exact ha _ q hq
      ·exact hP _ (qcv (by omega) no)
 | bi p a b iha ihb=>
   intro hw h no
   have ha:=iha hw.2.2.1 fun q hq=>h q (List.mem_append.mpr (.inl (List.mem_append.mpr (.inl hq))))
   have hb:=ihb hw.2.2.2 fun q hq=>h q (List.mem_append.mpr (.inl (List.mem_append.mpr (.inr hq))))
   have h2:=opn2 hw.1
   simp only [nnfT]
   split
   ·intro q hq
    simp only [Fm.flat,List.mem_append,List.mem_singleton] at hq
    rcases hq with (hq | hq) | rfl
    ·exact ha _ q hq
    ·exact hb _ q hq
    ·exact hP _ (qcv (by omega) no)
   ·intro q hq
    simp only [Fm.flat,List.mem_append,List.mem_singleton] at hq
    rcases hq with (hq | hq) | rfl
    ·exact ha _ q hq
    ·exact hb _ q hq
    ·exact hP _ (qcv (by omega) no)
theorem known14m:M4=some true:=by kernel_rfl
theorem of_ok14m (s:List UInt8):∃ f:List Prt,M6 s=some f∧(f=[]∨(f.length≤24∧goodF f)):=by
 obtain ⟨e,x,f,h1,h2⟩:=parse_ok s
 refine ⟨f,?_,?_⟩
 ·show T6 Ops.std M18 s some=_
  unfold T6
  rw [h1,ob_s]
 ·rcases h2 with h | h
  ·exact .inl h
  ·exact .inr h.2
theorem knA_iff14 {vs:List Vrb} {ps:List Pcs} (ts:List Trn) (f:List Prt):knA vs ps ts f=true↔∀ p∈f,p.1=3→knB vs ps ts p.2=true:=by
 unfold knA
 rw [List.all_eq_true]
 constructor
 ·intro h p hp h3
  have:=h p hp
  rw [if_pos h3] at this;exact this
 ·intro h p hp
  by_cases h3:p.1=3
  ·rw [if_pos h3];exact h p hp h3
  ·rw [if_neg h3]
theorem T_NnfP14 {t:Fm Trm} (ht:WF t) (h60:t.size≤60):M12 t.flat=some (nnfL t false):=by
 rw [prog_Nnf];exact qcp ht h60 (T_small ht h60).2 (T_rightP ht h60) false
theorem T_NegateP14 {t:Fm Trm} (ht:WF t) (h60:t.size≤60):M13 t.flat=some (nnfL t true):=by
 rw [prog_Negate];exact qcp ht h60 (T_small ht h60).2 (T_rightP ht h60) true
section
variable (p0:List Int) (p1 p2:Int) (p3:List (List Int)) (p4 p5:List Int)
noncomputable abbrev nmR14:=R3 M4 M5 M7 M6 M8 M9 M10 M11 M12 M13 p0 p1 p2 p3 p4 p5
theorem qcx {A:Type} (val:Fm Trm→A) (d:A) (t:Fm Trm):(t.post val).getD (t.size-1) d=val t:=by
 have:=qei val d t [] []
 simpa using this
theorem nm_l0 (f g u:Fm Trm) (vf vg vu:Fm Trm→List Bool) (n:Nat) (hn:n≤100) (o p q:Nat→Bool) (hf:vf f=rowL n o) (hg:vg g=rowL n p) (hu:vu u=rowL n q) (h:∀ i,i<n→o i=p i) (h':∀ i,i<n→q i=!o i) (hsf:f.size≤60) (hsg:g.size≤60) (hsu:u.size≤60) :
  ∀ (t i m:Nat),i+t=n→t<m→nmR14 p0 p1 p2 p3 p4 p5 m (.l0 (n:Nat) (i:Nat) (f.post vf) (g.post vg) (u.post vu))=some true
 | t,i,0,hi,hm=>by omega
 | 0,i,m+1,hi,hm=>by
   show T3 Ops.std _ _ _ _ _ _ _ _ _ _ p0 p1 p2 p3 p4 p5 _ some _=_
   unfold T3
   simp only [qaj,qab]
   rw [if_neg (by omega)]
 | t+1,i,m+1,hi,hm=>by
   have ih:=nm_l0 f g u vf vg vu n hn o p q hf hg hu h h' hsf hsg hsu t (i+1) m (by omega) (by omega)
   have s1:=f.size_pos
   have s2:=g.size_pos
   have s3:=u.size_pos
   have l1:=qbn vf f
   have l2:=qbn vg g
   have l3:=qbn vu u
   have g1:=qcx vf (Ty.dflt ty45) f
   have g2:=qcx vg (Ty.dflt ty45) g
   have g3:=qcx vu (Ty.dflt ty45) u
   have w1:IntKind.wrap IntKind.i64 ((f.size:Int)-1)=((f.size-1:Nat):Int):=by rw [wrap64 (by omega) (by omega)];omega
   have w2:IntKind.wrap IntKind.i64 ((g.size:Int)-1)=((g.size-1:Nat):Int):=by rw [wrap64 (by omega) (by omega)];omega
   have w3:IntKind.wrap IntKind.i64 ((u.size:Int)-1)=((u.size-1:Nat):Int):=by rw [wrap64 (by omega) (by omega)];omega
   have e1:=qc7 n o i (by omega)
   have e2:=qc7 n p i (by omega)
   have e3:=qc7 n q i (by omega)
   unfold fnB at e1 e2 e3
   have e1':(rowL n o).getD i (Ty.dflt Ty.bool)=o i:=e1
   have e2':(rowL n p).getD i (Ty.dflt Ty.bool)=o i:=e2.trans (h i (by omega)).symm
   have e3':(rowL n q).getD i (Ty.dflt Ty.bool)=!o i:=e3.trans (h' i (by omega))
   have ci:(0:Int)≤(i:Int)∧(i:Int)<((n:Nat):Int):=by omega
   have c1:(0:Int)≤((f.size-1:Nat):Int)∧((f.size-1:Nat):Int)<((f.size:Nat):Int):=by omega
   have c2:(0:Int)≤((g.size-1:Nat):Int)∧((g.size-1:Nat):Int)<((g.size:Nat):Int):=by omega
   have c3:(0:Int)≤((u.size-1:Nat):Int)∧((u.size-1:Nat):Int)<((u.size:Nat):Int):=by omega
   show T3 Ops.std _ _ _ _ _ _ _ _ _ _ p0 p1 p2 p3 p4 p5 _ some _=_
   unfold T3
   simp only [qaj,qal,qab,qaf,l1,l2,l3,w1,w2,w3,g1,g2,g3,hf,hg,hu,qcf,if_pos ci,if_pos ci.2,if_pos c1,if_pos c2,if_pos c3,e1',e2',e3',beq_self_eq_true,Bool.not_true,cond_false,show IntKind.wrap IntKind.i64 ((i:Int)+1)=((i+1:Nat):Int) from qag (by omega)]
   have hb:(o i == !o i)=false:=by cases o i<;>rfl
   rw [hb]
   exact ih
theorem nm_all {vs:List Vrb} {ps:List Pcs} {ts:List Trn} (hR:M8 vs ps ts=some true) (hM:goodM vs ps) (hg:smallG vs ps) {t:Fm Trm} (ht:WF t) (h60:t.size≤60) (hs:∀ no,(nnfT t no).size≤60) (hk:knA vs ps ts t.flat=true) (m:Nat) (hm:100<m) :
  (ob (M10 vs ps ts p4 p5) fun y7=>ob (M11 vs ps ts t.flat y7.1 y7.2) fun y8=>ob (M12 t.flat) fun y9=>ob (M11 vs ps ts y9 y7.1 y7.2) fun y10=>ob (M13 t.flat) fun y11=>ob (M11 vs ps ts y11 y7.1 y7.2) fun y12=>
    if ((y8.length:Nat):Int)=0 then some false else if ((y10.length:Nat):Int)=0 then some false else if ((y12.length:Nat):Int)=0 then some false else
     if 0≤IntKind.wrap IntKind.i64 (((y8.length:Nat):Int)-1)∧IntKind.wrap IntKind.i64 (((y8.length:Nat):Int)-1)<((y8.length:Nat):Int) then
      nmR14 p0 p1 p2 p3 p4 p5 m (.l0 (Nat.cast (List.length (List.getD y8 (Int.toNat (IntKind.wrap IntKind.i64 (((y8.length:Nat):Int)-1))) (Ty.dflt ty45)))) 0 y8 y10 y12) else none)=some true:=by
 obtain ⟨w,hw,hok⟩:=Word_ok (ts:=ts) hM p4 p5
 have hb:w.1.length<w.1.length+w.2.length:=by have:=hok.2.1;omega
 have hn:w.1.length+w.2.length≤12:=by have:=hok.1;have:=hok.2.2.1;omega
 have kn:=fun no=>(knA_iff14 ts (nnfT t no).flat).mpr (nnf_all (P:=fun p=>p.1=3→knB vs ps ts p.2=true) (fun k hk h3=>absurd h3 hk) ht ((knA_iff14 ts _).mp hk) no)
 have wf:=fun no=>nnfT_wf (E:=rightE) ht no
 have e:∀ no,nnfL t no=(nnfT t no).flat:=fun no=>if_pos (hs no)
 have sem:=fun no=>sem_nnf (n:=w.1.length+w.2.length) (back:=w.1.length) (V:=valE vs ps ts (w.1++w.2)) ht no
 have l1:=qbn (allV vs ps ts w) t
 have l2:=qbn (allV vs ps ts w) (nnfT t false)
 have l3:=qbn (allV vs ps ts w) (nnfT t true)
 have g1:=qcx (allV vs ps ts w) (Ty.dflt ty45) t
 have s1:=t.size_pos
 have s2:=(nnfT t false).size_pos
 have s3:=(nnfT t true).size_pos
 have w1:IntKind.wrap IntKind.i64 ((t.size:Int)-1)=((t.size-1:Nat):Int):=by rw [wrap64 (by omega) (by omega)];omega
 have hln:(allV vs ps ts w t).length=w.1.length+w.2.length:=qcf _ _
 rw [hw,ob_s,All_ok ts hR hM hg t ht h60 hk w hok,ob_s,T_NnfP14 ht h60,ob_s,e,All_ok ts hR hM hg _ (wf false) (hs false) (kn false) w hok,ob_s,T_NegateP14 ht h60,ob_s,e,All_ok ts hR hM hg _ (wf true) (hs true) (kn true) w hok,ob_s]
 simp only [l1,l2,l3,w1,qaf,g1,hln]
 rw [if_neg (by omega),if_neg (by omega),if_neg (by omega),if_pos (by omega)]
 refine nm_l0 p0 p1 p2 p3 p4 p5 t (nnfT t false) (nnfT t true) _ _ _ (w.1.length+w.2.length) (by omega) _ _ _ rfl rfl rfl (fun i hi=>?_) (fun i hi=>?_) h60 (hs false) (hs true) (w.1.length+w.2.length) 0 m (by omega) (by omega)
 ·rw [sem false];rfl
 ·rw [sem true];rfl
end
theorem plainNnfMeans (p0:List Int) (p1 p2:Int) (p3:List (List Int)) (p4 p5:List Int) (w0:Ty.wf ty22 p0) (w1:Ty.wf ty3 p1) (w2:Ty.wf ty3 p2) (w3:Ty.wf ty23 p3) (w4:Ty.wf ty22 p4) (w5:Ty.wf ty22 p5):M3 p0 p1 p2 p3 p4 p5=some true:=by
 show T3 Ops.std M4 M5 M7 M6 M8 M9 M10 M11 M12 M13 p0 p1 p2 p3 p4 p5 (nmR14 p0 p1 p2 p3 p4 p5 1000000) some none=_
 unfold T3
 obtain ⟨s,hs,_⟩:=formula_ok p0
 obtain ⟨f,hf,hf2⟩:=of_ok14m s
 obtain ⟨vs,ps,ts,hm,hsm⟩:=Model_ok p1 p2 p3
 rw [known14m,hs,hm]
 simp only [ob_s,hf,Bool.not_true,cond_false,qap,qal,qab]
 have kk:(ob M4 fun y=>some y)=some true:=by rw [known14m,ob_s]
 rcases hf2 with h0 | ⟨h24,hgf⟩
 ·rw [h0,if_pos (by simp)]
 ·obtain ⟨t,ht,rfl,h60⟩:=good_tree hgf (by omega)
  rw [t.flat_len] at h24
  have hs1:=t.size_pos
  rw [if_neg (by rw [t.flat_len];omega)]
  obtain ⟨r,hr,hgood⟩:=qdi (vs:=vs) (ps:=ps) (ts:=ts) hsm
  rw [hr,ob_s]
  cases r with
  | false=>rfl
  | true=>
    simp only [Bool.not_true,cond_false]
    rw [qft ts hsm.g t.flat (by rw [t.flat_len];exact h60) (wf_atm ht) (T_rightR ht h60),ob_s]
    cases hk:knA vs ps ts t.flat with
    | false=>rfl
    | true=>
      simp only [Bool.not_true,cond_false]
      exact nm_all p0 p1 p2 p3 p4 p5 hr (hgood rfl) hsm.g ht h60 (fun no=>by have:=qdb t no;omega) hk 1000000 (by omega)
end Go.Proofs.YtfdlgmbbflmbgaaGreatDoor.Av
