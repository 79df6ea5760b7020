/- The plain law of WordTells: what its twin computes answers true. Conditions: none. -/
import Derived.Test.YtccnmhdgghjgoaaGreatDoorPWordTellsa
set_option linter.unusedSimpArgs false
set_option linter.unusedVariables false
set_option maxRecDepth 100000
namespace Go.Proofs.YtccnmhdgghjgoaaGreatDoor.Av
open Go
def okL (L:Nat) (l:List (List UInt8)):Prop:=∀ w∈l,w.length≤L
theorem okL.app {L:Nat} {l:List (List UInt8)} {w:List UInt8} (h:okL L l) (hw:w.length≤L):okL L (l++[w]):=fun x hx=>by
 rcases List.mem_append.1 hx with hx | hx
 ·exact h x hx
 ·simp only [List.mem_singleton] at hx;rw [hx];exact hw
theorem okL.get {L:Nat} {l:List (List UInt8)} (h:okL L l) (k:Nat):(l.getD k []).length≤L:=by
 rw [List.getD_eq_getElem?_getD]
 by_cases hk:k<l.length
 ·rw [List.getElem?_eq_getElem hk];exact h _ (List.getElem_mem hk)
 ·rw [List.getElem?_eq_none (by omega)];simp
noncomputable abbrev cutR (s:List UInt8) (c:Int):=R86 s c
theorem cut_loop (s:List UInt8) (hs:s.length≤60000) (c:Int):∀ (t i n fr:Nat) (out:List (List UInt8)),i+t=s.length→t<n→fr≤i→out.length≤i→okL s.length out→∃ l,cutR s c n (.l0 fr i out)=some l∧0<l.length∧l.length≤s.length+1∧okL s.length l
 | t,i,0,fr,out,hi,hn,hf,ho,hk=>by omega
 | 0,i,n+1,fr,out,hi,hn,hf,ho,hk=>by
   show ∃ l,T86 Ops.std s c _ some _=some l∧_
   unfold T86
   simp only [qae,qag,qam,qaa,qab,mt,List.length_cons,List.length_nil]
   rw [if_neg (by omega),if_pos (by omega),if_pos (by omega)]
   exact ⟨_,rfl,by simp,by simp;omega,hk.app (by simp)⟩
 | t+1,i,n+1,fr,out,hi,hn,hf,ho,hk=>by
   have ih:=cut_loop s hs c t (i+1) n
   show ∃ l,T86 Ops.std s c _ some _=some l∧_
   unfold T86
   have hw:IntKind.wrap IntKind.i64 ((i:Int)+1)=((i+1:Nat):Int):=qaf (by omega)
   have h1:(0:Int)≤(fr:Int):=by omega
   have h2:(fr:Int)≤(i:Int):=by omega
   simp only [qae,qag,qam,qan,qak,qaa,qab,mt,List.length_cons,List.length_nil,hw,h1,h2,decide_true,cond_true,if_true]
   rw [if_pos (by omega),if_pos (by omega)]
   split
   ·rw [if_pos (by omega),if_pos (by omega)]
    exact ih (i+1) _ (by omega) (by omega) (by omega) (by simp;omega) (hk.app (by simp;omega))
   ·exact ih fr out (by omega) (by omega) (by omega) (by omega) hk
theorem cut_ok (s:List UInt8) (hs:s.length≤60000) (c:Int):∃ l,M86 s c=some l∧0<l.length∧l.length≤s.length+1∧okL s.length l:=by
 show ∃ l,T86 Ops.std s c (cutR s c 1000000) some none=some l∧_
 unfold T86
 exact cut_loop s hs c s.length 0 1000000 0 [] (by omega) (by omega) (by omega) (by simp) (fun w h=>by cases h)
theorem qfu (p:List UInt8) (L:Nat) (l:List (List UInt8)) (hl:l.length≤100000) (hL:okL L l):∀ (t i n:Nat) (out:List (List UInt8)),i+t=l.length→t<n→out.length≤i→okL L out→∃ r,R87 M86 p n (.l0 i out l)=some r∧r.length≤l.length∧okL L r
 | t,i,0,out,hi,hn,ho,hk=>by omega
 | 0,i,n+1,out,hi,hn,ho,hk=>by
   show ∃ r,T87 Ops.std _ p _ some _=some r∧_
   unfold T87
   simp only [qae,qaa]
   rw [if_neg (by omega)]
   exact ⟨out,rfl,by omega,hk⟩
 | t+1,i,n+1,out,hi,hn,ho,hk=>by
   have ih:=qfu p L l hl hL t (i+1) n
   show ∃ r,T87 Ops.std _ p _ some _=some r∧_
   unfold T87
   have hw:IntKind.wrap IntKind.i64 ((i:Int)+1)=((i+1:Nat):Int):=qaf (by omega)
   simp only [qae,qag,qam,qaa,qab,mt,List.length_cons,List.length_nil,hw]
   rw [if_pos (by omega),if_pos (by omega)]
   cases hb:!(l.getD i (Ty.dflt ty9) == ([]:List UInt8)) with
   | false=>simp only [cond_false];exact ih out (by omega) (by omega) (by omega) hk
   | true=>
     simp only [cond_true]
     rw [if_pos (by omega),if_pos (by omega)]
     exact ih _ (by omega) (by omega) (by simp;omega) (hk.app (hL.get i))
theorem words_ok (s:List UInt8) (hs:s.length≤60000):∃ l,M87 s=some l∧l.length≤s.length+1∧okL s.length l:=by
 obtain ⟨l,h1,h2,h3,h4⟩:=cut_ok s hs 32
 show ∃ l,T87 Ops.std M86 s (R87 M86 s 1000000) some none=some l∧_
 unfold T87
 rw [h1,ob_s]
 obtain ⟨r,r1,r2,r3⟩:=qfu s s.length l (by omega) h4 l.length 0 1000000 [] (by omega) (by omega) (by simp) (fun w h=>by cases h)
 exact ⟨r,r1,by omega,r3⟩
theorem skip_all (p0:List UInt8) (p1:Int):∀ n:Nat,(∀ (s:List UInt8) (k:Nat),k≤1000→s.length+3*k+1≤n→∃ s',R90 p0 p1 n (.l0 s (k:Nat))=some s'∧s'.length≤s.length)∧
  (∀ (s:List UInt8) (k:Nat),k≤1000→1≤k→s.length+3*k≤n→∃ s',R90 p0 p1 n (.l1 s (k:Nat))=some s'∧s'.length≤s.length)∧
  (∀ (s:List UInt8) (k:Nat),k≤1000→1≤k→s.length+3*k≤n+1→∃ s',R90 p0 p1 n (.l2 s (k:Nat))=some s'∧s'.length≤s.length)
 | 0=>⟨fun s k h0 h=>by omega,fun s k h0 h1 h=>by omega,fun s k h0 h1 h=>by omega⟩
 | n+1=>by
   obtain ⟨ia,ib,ic⟩:=skip_all p0 p1 n
   refine ⟨fun s k h0 h=>?_,fun s k h0 h1 h=>?_,fun s k h0 h1 h=>?_⟩
   ·show ∃ s',T90 Ops.std p0 p1 _ some _=some s'∧_
    unfold T90
    simp only [qae,qaa]
    by_cases hk:0<k
    ·rw [if_pos (by omega)];exact ib s k h0 (by omega) (by omega)
    ·rw [if_neg (by omega)];exact ⟨s,rfl,by omega⟩
   ·show ∃ s',T90 Ops.std p0 p1 _ some _=some s'∧_
    unfold T90
    simp only [qae,qag,qak,qaa,List.take_length]
    by_cases hs:0<s.length
    ·rw [if_pos (by omega),if_pos (by omega)]
     split
     ·rw [if_pos (by omega)]
      obtain ⟨s',e1,e2⟩:=ib (s.drop (Int.toNat 1)) k h0 h1 (by simp;omega)
      exact ⟨s',e1,by simp at e2;omega⟩
     ·exact ic s k h0 h1 (by omega)
    ·rw [if_neg (by omega)];exact ic s k h0 h1 (by omega)
   ·show ∃ s',T90 Ops.std p0 p1 _ some _=some s'∧_
    unfold T90
    have hw:IntKind.wrap IntKind.i64 ((k:Int)-1)=((k-1:Nat):Int):=by rw [wrap64 (by omega) (by omega)];omega
    simp only [qae,qag,qak,qas,qaa,List.take_length,hw]
    by_cases hs:0<s.length
    ·rw [if_pos (by omega),if_pos (by omega)]
     split
     ·rw [if_pos (by omega)]
      obtain ⟨s',e1,e2⟩:=ic (s.drop (Int.toNat 1)) k h0 h1 (by simp;omega)
      exact ⟨s',e1,by simp at e2;omega⟩
     ·exact ia s (k-1) (by omega) (by omega)
    ·rw [if_neg (by omega)];exact ia s (k-1) (by omega) (by omega)
theorem skip_ok (s:List UInt8) (hs:s.length≤60000) (k:Nat) (hk:k≤10):∃ s',M90 s (k:Nat)=some s'∧s'.length≤s.length:=by
 show ∃ s',T90 Ops.std s (k:Nat) (R90 s (k:Nat) 1000000) some none=some s'∧_
 unfold T90
 exact (skip_all s (k:Nat) 1000000).1 s k (by omega) (by omega)
theorem qcx (s:List UInt8) (b:Bool) (d:Nat):∀ (t i n:Nat) (v:Int),i+t=4→t<n→∃ r,R147 (Rec147 d) M104 s b n (.l0 v i)=some r
 | t,i,0,v,hi,hn=>by omega
 | t,i,n+1,v,hi,hn=>by
   have ih:=fun (h:0<t)=>qcx s b d (t-1) (i+1) n
   show ∃ r,T147 Ops.std _ _ s b _ some _=some r
   unfold T147
   have hw:IntKind.wrap IntKind.i64 ((i:Int)+1)=((i+1:Nat):Int):=qaf (by omega)
   simp only [qae,qag,qaa,qab,qbg,ob_s,hw]
   by_cases h:(i:Int)<(s.length:Int)
   ·rw [if_pos h,if_pos (by omega)]
    cases !digitP' (s.getD i 0) with
    | true=>exact ⟨_,rfl⟩
    | false=>
      simp only [cond_false]
      rw [if_pos (by omega)]
      by_cases h2:(2:Int)<(i:Int)
      ·rw [if_pos h2];exact ⟨_,rfl⟩
      ·rw [if_neg h2];exact ih (by omega) _ (by omega) (by omega)
   ·rw [if_neg h];exact ⟨_,rfl⟩
theorem amount_f (s:List UInt8) (d:Nat):∃ r,Rec147 (d+1) s false=some r:=by
 show ∃ r,T147 Ops.std (Rec147 d) M104 s false (R147 (Rec147 d) M104 s false 1000000) some none=some r
 unfold T147
 exact qcx s false d 4 0 1000000 0 (by omega) (by omega)
theorem qdb (s:List UInt8) (b:Bool):∃ n ok,M147 s b=some (n,ok):=by
 have key:∃ r,Rec147 (999998+1+1) s b=some r:=by
  cases b with
  | false=>exact amount_f s _
  | true=>
    show ∃ r,T147 Ops.std (Rec147 (999998+1)) M104 s true (R147 (Rec147 (999998+1)) M104 s true 1000000) some none=some r
    have hz:=qcx s true (999998+1) 4 0 1000000 0 (by omega) (by omega)
    unfold T147
    simp only [qae,qag,qak,qaa,cond_true]
    by_cases h:(1:Int)<(s.length:Int)
    ·rw [if_pos h,if_pos (by omega)]
     split
     ·rw [if_pos (by omega)]
      obtain ⟨r,hr⟩:=amount_f ((s.take s.length).drop (Int.toNat 1)) 999998
      rw [hr]
      exact ⟨_,rfl⟩
     ·exact hz
    ·rw [if_neg h];exact hz
 obtain ⟨⟨n,ok⟩,h⟩:=key
 exact ⟨n,ok,h⟩
theorem parseVar_ok (w:List (List UInt8)) (L:Nat) (hw:okL L w):∃ nm lo hi ini ok,M88 w=some (nm,lo,hi,ini,ok)∧nm.length≤L:=by
 show ∃ nm lo hi ini ok,T88 Ops.std M147 w some=some (nm,lo,hi,ini,ok)∧_
 unfold T88
 simp only [qak,qag,qas,qaa,mt]
 by_cases h:((w.length:Nat):Int)=4
 ·rw [if_neg (by simp [h]),if_pos (by omega)]
  obtain ⟨n1,o1,e1⟩:=qdb (w.getD (Int.toNat 1) (Ty.dflt ty9)) true
  obtain ⟨n2,o2,e2⟩:=qdb (w.getD (Int.toNat 2) (Ty.dflt ty9)) true
  obtain ⟨n3,o3,e3⟩:=qdb (w.getD (Int.toNat 3) (Ty.dflt ty9)) true
  rw [e1,ob_s,if_pos (by omega),e2,ob_s,if_pos (by omega),e3,ob_s,if_pos (by omega)]
  have hg:=hw.get (Int.toNat 0)
  cases o1<;>cases o2<;>exact ⟨_,_,_,_,_,rfl,hg⟩
 ·rw [if_pos h]
  exact ⟨_,_,_,_,_,rfl,by simp⟩
theorem qdu (s:List UInt8) (hs:s.length<900000):∃ c ok,M106 s=some (c,ok):=by
 show ∃ c ok,T106 Ops.std M58 s some=some (c,ok)
 unfold T106
 cases hb:s == mt UInt8 with
 | true=>exact ⟨_,_,rfl⟩
 | false=>
   have h0:0<s.length:=by
    cases s with
    | nil=>cases hb
    | cons a b=>simp
   have hw:IntKind.wrap IntKind.i64 ((s.length:Int)-1)=((s.length-1:Nat):Int):=by rw [wrap64 (by omega) (by omega)];omega
   simp only [qag,qaa,cond_false,hw,qab]
   rw [if_pos (by omega),if_pos (by omega),qaw _ (by simp;omega),ob_s]
   generalize isWordP _=b
   generalize (List.drop (s.length-1) (List.take s.length s) == [33])=b2
   cases b<;>cases b2<;>exact ⟨_,_,rfl⟩
theorem id_ok (n:Int):M107 n=some (decide (1≤n∧n≤999)):=by
 show T107 Ops.std n some=_
 unfold T107
 simp only [qan,qaa]
 by_cases h:1≤n
 ·rw [if_pos h];simp [h]
 ·rw [if_neg h];simp [h]
theorem w999_ok (n:Int):M59 n=some (decide (-999≤n∧n≤999)):=by
 show T59 Ops.std n some=_
 unfold T59
 simp only [qan,qaa]
 by_cases h:-999≤n
 ·rw [if_pos h];simp [h]
 ·rw [if_neg h];simp [h]
def shortE (f:List Trm):Prop:=f.length≤30∧∀ t∈f,t.2.2.1.length≤8∧t.2.2.2.length≤8
theorem qbu:shortE []:=⟨by simp,fun t h=>by cases h⟩
theorem shortE.of {f:List Trm} (h:rightE f=true):shortE f:=qbk h
theorem shortE.small {f:List Trm} (h:shortE f):smallE f:=⟨by have:=h.1;omega,fun t ht=>by have:=h.2 t ht;omega⟩
theorem shortE.right {f:List Trm} (h:shortE f):M110 f=some (rightE f):=qfo f h.small (by have:=h.1;omega)
theorem parse7_ok (s:List UInt8):∃ e x f,M148 s=some (e,x,f)∧shortE f∧(e=0→rightE f=true):=by
 show ∃ e x f,T148 Ops.std M82 M177 s some=some (e,x,f)∧_
 unfold T148
 rw [lex_ref,ob_s]
 rcases hl:lexS s with ⟨e,x,l⟩
 simp only [qak,qag,qas,qaa,mt]
 by_cases he:e=0
 ·subst he
  obtain ⟨h1,h2,h3⟩:=lexS_ok hl
  rw [if_neg (by simp)]
  have hln:=toks_len h1
  obtain ⟨k,e2,y,t1,t2,t3⟩:=take_ok h1 (by omega) 0 hln
  have t1':M177 l 0=some ((k:Int),e2,y):=t1
  rw [t1',ob_s]
  dsimp only
  rcases t3 with ⟨rfl,_,hr,_⟩ | ⟨rfl,rfl⟩ | ⟨rfl,rfl,_⟩
  ·rw [if_neg (by simp),if_pos (by omega)]
   split
   ·rw [if_pos (by omega)]
    exact ⟨_,_,_,rfl,qbu,fun h=>by cases h⟩
   ·exact ⟨_,_,_,rfl,shortE.of hr,fun _=>hr⟩
  ·rw [if_pos (by decide),if_pos (by omega)]
   exact ⟨_,_,_,rfl,qbu,fun h=>by cases h⟩
  ·rw [if_pos (by decide),if_pos (by omega)]
   exact ⟨_,_,_,rfl,qbu,fun h=>by cases h⟩
 ·rw [if_pos he]
  exact ⟨_,_,_,rfl,qbu,fun h=>absurd h he⟩
abbrev Eff:=List UInt8×List Trm
def okEf (x:Eff):Prop:=x.1.length≤8∧rightE x.2=true
theorem qd7 (p:List (List UInt8)) (hp:p.length≤100000):∀ (t i n:Nat) (out:List Eff),i+t=p.length→t<n→out.length≤i→(∀ x∈out,okEf x)→
  ∃ b o,R149 M82 M177 p n (.l0 i out)=some (b,o)∧o.length≤p.length∧∀ x∈o,okEf x
 | t,i,0,out,hi,hn,ho,hk=>by omega
 | 0,i,n+1,out,hi,hn,ho,hk=>by
   show ∃ b o,T149 Ops.std _ _ p _ some _=some (b,o)∧_
   unfold T149
   simp only [qae,qaa]
   rw [if_neg (by omega)]
   exact ⟨_,_,rfl,by omega,hk⟩
 | t+1,i,n+1,out,hi,hn,ho,hk=>by
   have ih:=qd7 p hp t (i+1) n
   have bad:∃ b o,(some ((false,([]:List Eff))):Option (Bool×List Eff))=some (b,o)∧o.length≤p.length∧∀ x∈o,okEf x:=⟨_,_,rfl,by simp,fun x h=>by cases h⟩
   show ∃ b o,T149 Ops.std _ _ p _ some _=some (b,o)∧_
   unfold T149
   have hw:IntKind.wrap IntKind.i64 ((i:Int)+1)=((i+1:Nat):Int):=qaf (by omega)
   simp only [qae,qag,qam,qak,qas,qaa,qab,mt,List.length_cons,List.length_nil,hw]
   rw [if_pos (by omega),if_pos (by omega),lex_ref,ob_s]
   rcases hl:lexS (p.getD i (Ty.dflt ty9)) with ⟨e,x,l⟩
   dsimp only
   by_cases he:e=0
   ·subst he
    obtain ⟨h1,h2,h3⟩:=lexS_ok hl
    rw [if_neg (by simp)]
    by_cases h3l:(l.length:Int)<3
    ·rw [if_pos h3l];exact bad
    ·rw [if_neg h3l,if_pos (by omega)]
     by_cases hk0:(l.getD (Int.toNat 0) (Ty.dflt ty130)).1=2
     ·rw [if_neg (fun h=>h hk0),if_pos (by omega)]
      by_cases hk1:(l.getD (Int.toNat 1) (Ty.dflt ty130)).1=4
      ·rw [if_neg (fun h=>h hk1),if_pos (by omega)]
       cases !(l.getD (Int.toNat 1) (Ty.dflt ty130)).2.1 == ([61]:List UInt8) with
       | true=>simp only [cond_true];exact bad
       | false=>
         simp only [cond_false]
         obtain ⟨k,e2,y,t1,t2,t3⟩:=take_ok h1 (by omega) 2 (by omega)
         have t1':M177 l 2=some ((k:Int),e2,y):=t1
         rw [t1',ob_s]
         dsimp only
         rcases t3 with ⟨rfl,_,hr,_⟩ | ⟨rfl,rfl⟩ | ⟨rfl,rfl,_⟩
         ·rw [if_neg (by simp),if_pos (by omega)]
          split
          ·exact bad
          ·rw [if_pos (by omega),if_pos (by omega)]
           refine ih _ (by omega) (by omega) (by simp;omega) fun z hz=>?_
           rcases List.mem_append.1 hz with hz | hz
           ·exact hk z hz
           ·simp only [List.mem_singleton] at hz
            rw [hz]
            refine ⟨?_,hr⟩
            have:=(toks_at h1 (i:=0) (by omega) (Ty.dflt ty130)).2.1.2 hk0
            exact qef this
         ·rw [if_pos (by decide)];exact bad
         ·rw [if_pos (by decide)];exact bad
      ·rw [if_pos hk1];exact bad
     ·rw [if_pos hk0];exact bad
   ·rw [if_pos he];exact bad
theorem effects_ok (p:List (List UInt8)) (hp:p.length≤100000):∃ b o,M149 p=some (b,o)∧o.length≤p.length∧∀ x∈o,okEf x:=by
 show ∃ b o,T149 Ops.std M82 M177 p (R149 M82 M177 p 1000000) some none=some (b,o)∧_
 unfold T149
 exact qd7 p hp p.length 0 1000000 [] (by omega) (by omega) (by simp) (fun x h=>by cases h)
def pB:Nat→Nat
 | 0=>20
 | i+1=>2*pB i+20
theorem pB_le:∀ i,i≤30→pB i≤43000000000:=by decide
theorem pB_ge:∀ i,20≤pB i
 | 0=>by simp [pB]
 | i+1=>by have:=pB_ge i;simp only [pB];omega
theorem qck (s:List UInt8) (a b:Int) (hs:s.length≤100000000000):∃ r,M179 s a b=some r∧r.length≤s.length+2:=by
 show ∃ r,T179 Ops.std s a b some=some r∧_
 unfold T179
 simp only [qae,qam,qaa,List.length_append,List.length_cons,List.length_nil]
 by_cases h:a<b
 ·rw [if_pos h,if_pos (by omega),if_pos (by omega)];exact ⟨_,rfl,by simp⟩
 ·rw [if_neg h];exact ⟨s,rfl,by omega⟩
theorem may_num {t:Trm} (h:mayT t=true) (h1:t.1=1):0≤t.2.1∧t.2.1≤999:=by
 unfold mayT at h
 simp [h1] at h
 omega
theorem rightE_may {e:List Trm} (h:rightE e=true):∀ t∈e,mayT t=true:=by
 unfold rightE fin30 at h
 cases hg:eGo e 0 with
 | none=>rw [hg] at h;cases h
 | some d=>exact eGo_may e 0 d hg
abbrev Sd:=List UInt8×Int
noncomputable abbrev prR (e:List Trm):=R145 M110 M178 M161 M151 M179 e
def okS (L:Nat) (st:List Sd):Prop:=∀ x∈st,x.1.length≤L
theorem okS.mono {L L':Nat} {st:List Sd} (h:okS L st) (hl:L≤L'):okS L' st:=fun x hx=>Nat.le_trans (h x hx) hl
theorem okS.app {L:Nat} {st:List Sd} {x:Sd} (h:okS L st) (hx:x.1.length≤L):okS L (st++[x]):=fun y hy=>by
 rcases List.mem_append.1 hy with hy | hy
 ·exact h y hy
 ·simp only [List.mem_singleton] at hy;rw [hy];exact hx
theorem okS.take {L:Nat} {st:List Sd} (h:okS L st) (k:Nat):okS L (st.take k):=fun y hy=>h y (List.mem_of_mem_take hy)
theorem okS.get {L:Nat} {st:List Sd} (h:okS L st) (k:Nat) (hk:k<st.length) (d:Sd):(st.getD k d).1.length≤L:=by
 rw [List.getD_eq_getElem?_getD,List.getElem?_eq_getElem hk];exact h _ (List.getElem_mem hk)
def sgnL:List (List UInt8):=[[],[],[],[],[33],[45],[42],[43],[45],[60],[60,61],[62],[62,61],[61,61],[33,61],[38,38],[124,124]]
theorem sgnL_len (k:Nat):(sgnL.getD k []).length≤2:=qat (n:=2) rfl k
theorem qfv (e:List Trm) (he:rightE e=true):∀ (t i n:Nat) (st:List Sd),i+t=e.length→t<n→st.length≤i→okS (pB i) st→∃ s,prR e n (.l0 i st)=some s∧s.length≤43000000000
 | t,i,0,st,hi,hn,ho,hk=>by omega
 | 0,i,n+1,st,hi,hn,ho,hk=>by
   have hsh:=shortE.of he
   have hB:=pB_le i (by have:=hsh.1;omega)
   show ∃ s,T145 Ops.std _ _ _ _ _ e _ some _=some s∧_
   unfold T145
   simp only [qae,qag,qak,qaa]
   rw [if_neg (by omega)]
   by_cases h0:((st.length:Nat):Int)=0
   ·rw [if_pos h0];exact ⟨_,rfl,by simp⟩
   ·rw [if_neg h0,if_pos (by omega)]
    exact ⟨_,rfl,by have:=hk.get 0 (by omega) (Ty.dflt ty210);exact Nat.le_trans this hB⟩
 | t+1,i,n+1,st,hi,hn,ho,hk=>by
   have ih:=qfv e he t (i+1) n
   have hsh:=shortE.of he
   have h30:=hsh.1
   have hB:=pB_le i (by omega)
   have hG:=pB_ge i
   have hB1:pB (i+1)=2*pB i+20:=rfl
   obtain ⟨x,hx⟩:∃ x,e.getD i (Ty.dflt ty150)=x:=⟨_,rfl⟩
   have hm:x∈e:=by
    rw [←hx,List.getD_eq_getElem?_getD,List.getElem?_eq_getElem (by omega)];exact List.getElem_mem _
   have hmay:=rightE_may he _ hm
   have hnm:=hsh.2 _ hm
   have hop:=mayT_op hmay
   show ∃ s,T145 Ops.std _ _ _ _ _ e _ some _=some s∧_
   unfold T145
   have hw:IntKind.wrap IntKind.i64 ((i:Int)+1)=((i+1:Nat):Int):=qaf (by omega)
   obtain ⟨v,hv⟩:=qc6 x.1
   simp only [qae,qag,qam,qak,qaa,qab,hx,hw,hv,opE_ref,ob_s,mt,List.length_cons,List.length_nil]
   rw [if_pos (by omega),if_pos (by omega)]
   by_cases o0:opE x.1=0
   ·rw [if_pos o0]
    by_cases h1:x.1=1
    ·obtain ⟨q1,q2⟩:=may_num hmay h1
     obtain ⟨s,d1,d2⟩:=qdt x.2.1.toNat (by omega)
     rw [Int.toNat_of_nonneg q1] at d1
     rw [if_pos h1,d1,ob_s,if_pos (by omega)]
     exact ih _ (by omega) (by omega) (by simp;omega) ((hk.mono (by omega)).app (by show s.length≤_;omega))
    ·rw [if_neg h1]
     by_cases h2:x.1=2
     ·rw [if_pos h2,if_pos (by omega)]
      exact ih _ (by omega) (by omega) (by simp;omega) ((hk.mono (by omega)).app (by show x.2.2.1.length≤_;omega))
     ·rw [if_neg h2]
      simp only [List.length_append,List.length_cons,List.length_nil]
      rw [if_pos (by omega),if_pos (by omega),if_pos (by omega)]
      exact ih _ (by omega) (by omega) (by simp;omega) ((hk.mono (by omega)).app (by show (x.2.2.1++([64]:List UInt8)++x.2.2.2).length≤_;simp;omega))
   ·rw [if_neg o0]
    have hop17:0≤x.1∧x.1<17:=by unfold opE at hop;split at hop<;>omega
    have hsl:(([[],[],[],[],[33],[45],[42],[43],[45],[60],[60,61],[62],[62,61],[61,61],[33,61],[38,38],[124,124]]:List (List UInt8)).getD (Int.toNat x.1) []).length≤2:=sgnL_len (Int.toNat x.1)
    by_cases o1:opE x.1=1
    ·rw [if_pos o1]
     by_cases hl:((st.length:Nat):Int)<1
     ·rw [if_pos hl];exact ⟨_,rfl,by simp⟩
     ·have hw1:IntKind.wrap IntKind.i64 ((st.length:Int)-1)=((st.length-1:Nat):Int):=by rw [wrap64 (by omega) (by omega)];omega
      rw [if_neg hl]
      simp only [hw1,qab]
      have hg:=hk.get (st.length-1) (by omega) (Ty.dflt ty210)
      obtain ⟨r,r1,r2⟩:=qck (st.getD (st.length-1) (Ty.dflt ty210)).1 (st.getD (st.length-1) (Ty.dflt ty210)).2 v (by omega)
      rw [if_pos (by omega),if_pos (by omega),r1,ob_s]
      generalize ([[],[],[],[],[33],[45],[42],[43],[45],[60],[60,61],[62],[62,61],[61,61],[33,61],[38,38],[124,124]]:List (List UInt8)).getD (Int.toNat x.1) []=sg at hsl ⊢
      rw [if_pos (by omega),if_pos (by omega),if_pos (by simp;omega)]
      exact ih _ (by omega) (by omega) (by simp;omega) (((hk.mono (by omega)).take _).app (by show (sg++r).length≤_;simp;omega))
    ·rw [if_neg o1]
     by_cases hl:((st.length:Nat):Int)<2
     ·rw [if_pos hl];exact ⟨_,rfl,by simp⟩
     ·have hw1:IntKind.wrap IntKind.i64 ((st.length:Int)-1)=((st.length-1:Nat):Int):=by rw [wrap64 (by omega) (by omega)];omega
      have hw2:IntKind.wrap IntKind.i64 ((st.length:Int)-2)=((st.length-2:Nat):Int):=by rw [wrap64 (by omega) (by omega)];omega
      rw [if_neg hl]
      simp only [hw1,hw2,qab]
      have hg1:=hk.get (st.length-1) (by omega) (Ty.dflt ty210)
      have hg2:=hk.get (st.length-2) (by omega) (Ty.dflt ty210)
      generalize ([[],[],[],[],[33],[45],[42],[43],[45],[60],[60,61],[62],[62,61],[61,61],[33,61],[38,38],[124,124]]:List (List UInt8)).getD (Int.toNat x.1) []=sg at hsl ⊢
      by_cases h3:v=3
      ·rw [if_pos h3]
       obtain ⟨a,a1,a2⟩:=qck (st.getD (st.length-2) (Ty.dflt ty210)).1 (st.getD (st.length-2) (Ty.dflt ty210)).2 4 (by omega)
       obtain ⟨c,c1,c2⟩:=qck (st.getD (st.length-1) (Ty.dflt ty210)).1 (st.getD (st.length-1) (Ty.dflt ty210)).2 (IntKind.wrap IntKind.i64 (v+1)) (by omega)
       simp only [a1,c1,ob_s,List.length_append]
       rw [if_pos (by omega),if_pos (by omega),if_pos (by omega),if_pos (by omega),if_pos (by omega),if_pos (by omega),if_pos (by simp;omega)]
       exact ih _ (by omega) (by omega) (by simp;omega) (((hk.mono (by omega)).take _).app (by show (a++sg++c).length≤_;simp;omega))
      ·rw [if_neg h3]
       obtain ⟨a,a1,a2⟩:=qck (st.getD (st.length-2) (Ty.dflt ty210)).1 (st.getD (st.length-2) (Ty.dflt ty210)).2 v (by omega)
       obtain ⟨c,c1,c2⟩:=qck (st.getD (st.length-1) (Ty.dflt ty210)).1 (st.getD (st.length-1) (Ty.dflt ty210)).2 (IntKind.wrap IntKind.i64 (v+1)) (by omega)
       simp only [a1,c1,ob_s,List.length_append]
       rw [if_pos (by omega),if_pos (by omega),if_pos (by omega),if_pos (by omega),if_pos (by omega),if_pos (by omega),if_pos (by simp;omega)]
       exact ih _ (by omega) (by omega) (by simp;omega) (((hk.mono (by omega)).take _).app (by show (a++sg++c).length≤_;simp;omega))
theorem print_ok (e:List Trm) (h:shortE e) (hr:rightE e=true):∃ s,M145 e=some s∧s.length≤43000000000:=by
 show ∃ s,T145 Ops.std M110 M178 M161 M151 M179 e (prR e 1000000) some none=some s∧_
 unfold T145
 rw [h.right,ob_s,hr]
 simp only [Bool.not_true,cond_false]
 exact qfv e hr e.length 0 1000000 [] (by omega) (by have:=h.1;omega) (by simp) (fun x h=>by cases h)
theorem okEf.short {x:Eff} (h:okEf x):shortE x.2:=shortE.of h.2
theorem reff_loop (l:List Eff) (hl:l.length≤100000) (hk:∀ x∈l,okEf x):∀ (t i n:Nat),i+t=l.length→t<n→∃ b,R180 M58 M110 l n (.l0 i)=some b∧(b=true→l.length≤3)
 | t,i,0,hi,hn=>by omega
 | 0,i,n+1,hi,hn=>by
   show ∃ b,T180 Ops.std _ _ l _ some _=some b∧_
   unfold T180
   simp only [qae,qan,qaa]
   rw [if_neg (by omega)]
   exact ⟨_,rfl,fun h=>by simp at h;omega⟩
 | t+1,i,n+1,hi,hn=>by
   have ih:=reff_loop l hl hk t (i+1) n
   show ∃ b,T180 Ops.std _ _ l _ some _=some b∧_
   unfold T180
   have hw:IntKind.wrap IntKind.i64 ((i:Int)+1)=((i+1:Nat):Int):=qaf (by omega)
   have hm:l.getD i (Ty.dflt ty157)∈l:=by
    rw [List.getD_eq_getElem?_getD,List.getElem?_eq_getElem (by omega)];exact List.getElem_mem _
   have hx:=hk _ hm
   simp only [qae,qag,qaa,qab,hw]
   rw [if_pos (by omega),if_pos (by omega),qaw _ (by have:=hx.1;omega),ob_s]
   cases isWordP (l.getD i (Ty.dflt ty157)).1 with
   | false=>exact ⟨false,rfl,fun h=>by cases h⟩
   | true=>
     simp only [Bool.not_true,cond_false]
     rw [if_pos (by omega),hx.short.right,ob_s,hx.2]
     simp only [Bool.not_true,cond_false]
     exact ih (by omega) (by omega)
theorem reff_ok (l:List Eff) (hl:l.length≤100000) (hk:∀ x∈l,okEf x):∃ b,M180 l=some b∧(b=true→l.length≤3):=by
 show ∃ b,T180 Ops.std M58 M110 l (R180 M58 M110 l 1000000) some none=some b∧_
 unfold T180
 exact reff_loop l hl hk l.length 0 1000000 (by omega) (by omega)
theorem peff_loop (l:List Eff) (h3:l.length≤3) (hk:∀ x∈l,okEf x):∀ (t i n:Nat) (s:List UInt8),i+t=l.length→t<n→s.length≤i*43000000100→∃ r,R181 M145 l n (.l0 s i)=some r∧r.length≤130000000000
 | t,i,0,s,hi,hn,hs=>by omega
 | 0,i,n+1,s,hi,hn,hs=>by
   show ∃ r,T181 Ops.std _ l _ some _=some r∧_
   unfold T181
   simp only [qae,qaa]
   rw [if_neg (by omega)]
   exact ⟨_,rfl,by omega⟩
 | t+1,i,n+1,s,hi,hn,hs=>by
   have ih:=peff_loop l h3 hk t (i+1) n
   show ∃ r,T181 Ops.std _ l _ some _=some r∧_
   unfold T181
   have hw:IntKind.wrap IntKind.i64 ((i:Int)+1)=((i+1:Nat):Int):=qaf (by omega)
   have hm:l.getD i (Ty.dflt ty157)∈l:=by
    rw [List.getD_eq_getElem?_getD,List.getElem?_eq_getElem (by omega)];exact List.getElem_mem _
   have hx:=hk _ hm
   have hx1:=hx.1
   obtain ⟨w,w1,w2⟩:=print_ok _ hx.short hx.2
   simp only [qae,qag,qam,qaa,qab,hw,w1,ob_s,List.length_append,List.length_cons,List.length_nil]
   rw [if_pos (by omega),if_pos (by omega),if_pos (by omega),if_pos (by omega),if_pos (by omega),if_pos (by omega),if_pos (by omega)]
   exact ih _ (by omega) (by omega) (by simp only [List.length_append,List.length_cons,List.length_nil];omega)
theorem peff_ok (l:List Eff) (h3:l.length≤3) (hk:∀ x∈l,okEf x):∃ r,M181 l=some r∧r.length≤130000000000:=by
 show ∃ r,T181 Ops.std M145 l (R181 M145 l 1000000) some none=some r∧_
 unfold T181
 exact peff_loop l h3 hk l.length 0 1000000 [] (by omega) (by omega) (by simp)
theorem printTrans_ok (id:Int) (a b c d:List UInt8) (g:List Trm) (ef:List Eff) (ha:a.length≤60000) (hb:b.length≤60000) (hc:c.length≤60000) (hd:d.length≤60000) (hg:shortE g) (hl:ef.length≤100000) (hk:∀ x∈ef,okEf x) :
  ∃ s,M150 id a b c d g ef=some s:=by
 show ∃ s,T150 Ops.std M106 M107 M58 M110 M180 M151 M145 M181 id a b c d g ef some=some s
 unfold T150
 obtain ⟨ch,ok,h1⟩:=qdu d (by omega)
 rw [h1,ob_s,id_ok,ob_s,qaw a (by omega),qaw b (by omega),qaw c (by omega),hg.right]
 simp only [ob_s]
 by_cases hid:1≤id∧id≤999
 ·rw [decide_eq_true hid]
  simp only [Bool.not_true,cond_false]
  cases ok with
  | false=>exact ⟨_,rfl⟩
  | true=>
  cases isWordP a with
  | false=>exact ⟨_,rfl⟩
  | true=>
  cases isWordP b with
  | false=>exact ⟨_,rfl⟩
  | true=>
  cases isWordP c with
  | false=>exact ⟨_,rfl⟩
  | true=>
  cases hr:rightE g with
  | false=>exact ⟨_,rfl⟩
  | true=>
  obtain ⟨bb,e1,e2⟩:=reff_ok ef hl hk
  simp only [Bool.not_true,cond_false,e1,ob_s]
  cases hbb:bb with
  | false=>exact ⟨_,rfl⟩
  | true=>
  obtain ⟨w,w1,w2⟩:=qdt id.toNat (by omega)
  rw [Int.toNat_of_nonneg (by omega)] at w1
  obtain ⟨u,u1,u2⟩:=print_ok g hg hr
  obtain ⟨z,z1,z2⟩:=peff_ok ef (e2 hbb) hk
  simp only [Bool.not_true,cond_false,w1,u1,z1,ob_s,qam,qaa,List.length_append,List.length_cons,List.length_nil]
  cases d == mt UInt8 with
  | true=>
    simp only [cond_true]
    rw [if_pos (by omega),if_pos (by omega),if_pos (by omega),if_pos (by omega),if_pos (by omega),if_pos (by omega),if_pos (by omega),if_pos (by omega),if_pos (by omega),if_pos (by omega),if_pos (by omega)]
    exact ⟨_,rfl⟩
  | false=>
    simp only [cond_false]
    rw [if_pos (by omega),if_pos (by omega),if_pos (by omega),if_pos (by omega),if_pos (by omega),if_pos (by omega),if_pos (by omega),if_pos (by omega),if_pos (by omega),if_pos (by omega),if_pos (by omega)]
    exact ⟨_,rfl⟩
 ·rw [decide_eq_false hid]
  exact ⟨_,rfl⟩
abbrev Trn:=Int×List UInt8×List UInt8×List UInt8×List UInt8×List Trm×List Eff
def okTr (t:Trn):Prop:=t.2.1.length≤60000∧t.2.2.1.length≤60000∧t.2.2.2.1.length≤60000∧t.2.2.2.2.1.length≤60000∧shortE t.2.2.2.2.2.1∧t.2.2.2.2.2.2.length≤100000∧∀ x∈t.2.2.2.2.2.2,okEf x
theorem parseTrans_ok (s:List UInt8) (hs:s.length≤60000):∃ id a b c d g ef ok,M89 s=some (id,a,b,c,d,g,ef,ok)∧okTr (id,a,b,c,d,g,ef):=by
 show ∃ id a b c d g ef ok,T89 Ops.std M87 M147 M106 M90 M86 M148 M149 M150 s some=some (id,a,b,c,d,g,ef,ok)∧_
 unfold T89
 have bad:∃ id a b c d g ef ok,(some ((0:Int),([]:List UInt8),([]:List UInt8),([]:List UInt8),([]:List UInt8),([]:List Trm),([]:List Eff),false))=some (id,a,b,c,d,g,ef,ok)∧okTr (id,a,b,c,d,g,ef):=
  ⟨_,_,_,_,_,_,_,_,rfl,by simp,by simp,by simp,by simp,qbu,by simp,fun x h=>by cases h⟩
 obtain ⟨w,w1,w2,w3⟩:=words_ok s hs
 rw [w1,ob_s]
 simp only [qae,qag,qak,qas,qaa,mt]
 by_cases h6:((w.length:Nat):Int)<6
 ·rw [if_pos h6];exact bad
 ·rw [if_neg h6,if_pos (by omega)]
  obtain ⟨n,ok,a1⟩:=qdb (w.getD (Int.toNat 0) (Ty.dflt ty9)) false
  rw [a1,ob_s,if_pos (by omega),if_pos (by omega),if_pos (by omega),if_pos (by omega)]
  have g1:=w3.get (Int.toNat 1)
  have g2:=w3.get (Int.toNat 2)
  have g3:=w3.get (Int.toNat 3)
  have g4:=w3.get (Int.toNat 4)
  obtain ⟨r,r1,r2⟩:=skip_ok s hs 5 (by omega)
  have r1':M90 s 5=some r:=r1
  obtain ⟨l,l1,l2,l3,l4⟩:=cut_ok r (by omega) 59
  obtain ⟨e,x,g,p1,p2,p3⟩:=parse7_ok (l.getD (Int.toNat 0) (Ty.dflt ty9))
  obtain ⟨fine,ef,f1,f2,f3⟩:=effects_ok (List.drop (Int.toNat 1) (List.take l.length l)) (by simp;omega)
  have fin:∀ d:List UInt8,d.length≤60000→∃ s',M150 n (w.getD (Int.toNat 1) (Ty.dflt ty9)) (w.getD (Int.toNat 2) (Ty.dflt ty9)) (w.getD (Int.toNat 3) (Ty.dflt ty9)) d g ef=some s':=fun d hd=>
   printTrans_ok n _ _ _ d g ef (Nat.le_trans g1 hs) (Nat.le_trans g2 hs) (Nat.le_trans g3 hs) hd p2 (by simp at f2;omega) f3
  have good:∀ d:List UInt8,d.length≤60000→okTr (n,w.getD (Int.toNat 1) (Ty.dflt ty9),w.getD (Int.toNat 2) (Ty.dflt ty9),w.getD (Int.toNat 3) (Ty.dflt ty9),d,g,ef):=fun d hd=>
   ⟨Nat.le_trans g1 hs,Nat.le_trans g2 hs,Nat.le_trans g3 hs,hd,p2,by simp at f2;show ef.length≤100000;omega,f3⟩
  cases w.getD (Int.toNat 4) (Ty.dflt ty9) == ([45]:List UInt8) with
  | true=>
    simp only [cond_true]
    rw [r1',ob_s,l1,ob_s,if_pos (by omega),p1,ob_s,if_pos (by omega),f1,ob_s]
    dsimp only
    cases ok with
    | false=>exact bad
    | true=>
      simp only [Bool.not_true,cond_false]
      by_cases he:e=0
      ·rw [if_neg (fun h=>h he)]
       cases fine with
       | false=>exact bad
       | true=>
         simp only [Bool.not_true,cond_false]
         obtain ⟨s',q1⟩:=fin [] (by simp)
         rw [q1,ob_s]
         cases s' == ([]:List UInt8) with
         | true=>exact bad
         | false=>exact ⟨_,_,_,_,_,_,_,_,rfl,good [] (by simp)⟩
      ·rw [if_pos he];exact bad
  | false=>
    simp only [cond_false]
    obtain ⟨ch,cok,c1⟩:=qdu (w.getD (Int.toNat 4) (Ty.dflt ty9)) (by have:(w.getD (Int.toNat 4) (Ty.dflt ty9)).length≤s.length:=g4;omega)
    rw [c1,ob_s]
    dsimp only
    cases cok with
    | false=>exact bad
    | true=>
    simp only [Bool.not_true,cond_false]
    rw [r1',ob_s,l1,ob_s,if_pos (by omega),p1,ob_s,if_pos (by omega),f1,ob_s]
    dsimp only
    cases ok with
    | false=>exact bad
    | true=>
      simp only [Bool.not_true,cond_false]
      by_cases he:e=0
      ·rw [if_neg (fun h=>h he)]
       cases fine with
       | false=>exact bad
       | true=>
         simp only [Bool.not_true,cond_false]
         obtain ⟨s',q1⟩:=fin (w.getD (Int.toNat 4) (Ty.dflt ty9)) (Nat.le_trans g4 hs)
         rw [q1,ob_s]
         cases s' == ([]:List UInt8) with
         | true=>exact bad
         | false=>exact ⟨_,_,_,_,_,_,_,_,rfl,good _ (Nat.le_trans g4 hs)⟩
      ·rw [if_pos he];exact bad
abbrev Vrb:=List UInt8×Int×Int×Int
abbrev Pcs:=List UInt8×List (List UInt8)
section
variable (vs:List Vrb) (ps:List Pcs) (ts:List Trn)
theorem qd8 (hp:ps.length≤100000) (s:List UInt8):∀ (t i n:Nat),i+t=ps.length→t<n→∃ r,R105 vs ps ts s n (.l0 i)=some r∧(r = -1∨∃ k:Nat,k<ps.length∧r=(k:Int))
 | t,i,0,hi,hn=>by omega
 | 0,i,n+1,hi,hn=>by
   show ∃ r,T105 Ops.std vs ps ts s _ some _=some r∧_
   unfold T105
   simp only [qae,qaa]
   rw [if_neg (by omega)]
   exact ⟨_,rfl,.inl rfl⟩
 | t+1,i,n+1,hi,hn=>by
   have ih:=qd8 hp s t (i+1) n (by omega) (by omega)
   show ∃ r,T105 Ops.std vs ps ts s _ some _=some r∧_
   unfold T105
   simp only [qae,qag,qaa,qab,show IntKind.wrap IntKind.i64 ((i:Int)+1)=((i+1:Nat):Int) from qaf (by omega)]
   rw [if_pos (by omega),if_pos (by omega)]
   cases (ps.getD i (Ty.dflt ty98)).1 == s with
   | true=>exact ⟨_,rfl,.inr ⟨i,by omega,rfl⟩⟩
   | false=>exact ih
theorem qdv (hp:ps.length≤100000) (s:List UInt8):∃ r,M105 vs ps ts s=some r∧(r = -1∨∃ k:Nat,k<ps.length∧r=(k:Int)):=by
 show ∃ r,T105 Ops.std vs ps ts s (R105 vs ps ts s 1000000) some none=some r∧_
 unfold T105
 exact qd8 vs ps ts hp s ps.length 0 1000000 (by omega) (by omega)
theorem qdc (hv:vs.length≤100000) (s:List UInt8):∀ (t i n:Nat),i+t=vs.length→t<n→∃ r,R109 vs ps ts s n (.l0 i)=some r∧(r = -1∨∃ k:Nat,k<vs.length∧r=(k:Int))
 | t,i,0,hi,hn=>by omega
 | 0,i,n+1,hi,hn=>by
   show ∃ r,T109 Ops.std vs ps ts s _ some _=some r∧_
   unfold T109
   simp only [qae,qaa]
   rw [if_neg (by omega)]
   exact ⟨_,rfl,.inl rfl⟩
 | t+1,i,n+1,hi,hn=>by
   have ih:=qdc hv s t (i+1) n (by omega) (by omega)
   show ∃ r,T109 Ops.std vs ps ts s _ some _=some r∧_
   unfold T109
   simp only [qae,qag,qaa,qab,show IntKind.wrap IntKind.i64 ((i:Int)+1)=((i+1:Nat):Int) from qaf (by omega)]
   rw [if_pos (by omega),if_pos (by omega)]
   cases (vs.getD i (Ty.dflt ty94)).1 == s with
   | true=>exact ⟨_,rfl,.inr ⟨i,by omega,rfl⟩⟩
   | false=>exact ih
theorem qcy (hv:vs.length≤100000) (s:List UInt8):∃ r,M109 vs ps ts s=some r∧(r = -1∨∃ k:Nat,k<vs.length∧r=(k:Int)):=by
 show ∃ r,T109 Ops.std vs ps ts s (R109 vs ps ts s 1000000) some none=some r∧_
 unfold T109
 exact qdc vs ps ts hv s vs.length 0 1000000 (by omega) (by omega)
def okLocs (ps:List Pcs):Prop:=∀ p∈ps,p.2.length≤100000
theorem okLocs.get {ps:List Pcs} (h:okLocs ps) (k:Nat) (hk:k<ps.length):(ps.getD k (Ty.dflt ty98)).2.length≤100000:=by
 rw [List.getD_eq_getElem?_getD,List.getElem?_eq_getElem hk];exact h _ (List.getElem_mem hk)
theorem qfw (hl:okLocs ps) (p:Nat) (hp:p<ps.length) (s:List UInt8):∀ (t i n:Nat),i+t=(ps.getD p (Ty.dflt ty98)).2.length→t<n→∃ r,R108 vs ps ts p s n (.l0 i)=some r∧(r = -1∨∃ k:Nat,k<(ps.getD p (Ty.dflt ty98)).2.length∧r=(k:Int))
 | t,i,0,hi,hn=>by omega
 | 0,i,n+1,hi,hn=>by
   show ∃ r,T108 Ops.std vs ps ts p s _ some _=some r∧_
   unfold T108
   simp only [qae,qag,qaa,qab]
   rw [if_pos (by omega),if_neg (by omega)]
   exact ⟨_,rfl,.inl rfl⟩
 | t+1,i,n+1,hi,hn=>by
   have ih:=qfw hl p hp s t (i+1) n (by omega) (by omega)
   have hg:=hl.get p hp
   show ∃ r,T108 Ops.std vs ps ts p s _ some _=some r∧_
   unfold T108
   simp only [qae,qag,qaa,qab,show IntKind.wrap IntKind.i64 ((i:Int)+1)=((i+1:Nat):Int) from qaf (by omega)]
   rw [if_pos (by omega),if_pos (by omega),if_pos (by omega),if_pos (by omega)]
   generalize ((ps.getD p (Ty.dflt ty98)).2.getD i (Ty.dflt Ty.str) == s)=b
   cases b with
   | true=>exact ⟨_,rfl,.inr ⟨i,by omega,rfl⟩⟩
   | false=>exact ih
theorem qeg (hl:okLocs ps) (p:Int) (hp:p = -1∨∃ k:Nat,k<ps.length∧p=(k:Int)) (s:List UInt8):∃ r,M108 vs ps ts p s=some r∧(0≤r→∃ q:Nat,q<ps.length∧p=(q:Int)):=by
 show ∃ r,T108 Ops.std vs ps ts p s (R108 vs ps ts p s 1000000) some none=some r∧_
 unfold T108
 simp only [qae,qaa]
 rcases hp with rfl | ⟨k,hk,rfl⟩
 ·rw [if_pos (by decide)];exact ⟨_,rfl,fun h=>by omega⟩
 ·rw [if_neg (by omega)]
  obtain ⟨r,h1,h2⟩:=qfw vs ps ts hl k hk s (ps.getD k (Ty.dflt ty98)).2.length 0 1000000 (by omega) (by have:=hl.get k hk;omega)
  exact ⟨r,h1,fun _=>⟨k,hk,rfl⟩⟩
structure smallG:Prop where
 v:vs.length≤100000
 p:ps.length≤100000
 l:okLocs ps
variable {vs ps}
def knE (vs:List Vrb) (ps:List Pcs) (ts:List Trn) (t:Trm):Prop:=
 (t.1=2→∃ k:Nat,k<vs.length∧M109 vs ps ts t.2.2.1=some (k:Int))∧
 (t.1=3→∃ (q:Nat) (r:Int),q<ps.length∧M105 vs ps ts t.2.2.1=some (q:Int)∧M108 vs ps ts (q:Int) t.2.2.2=some r)
theorem qfx (hg:smallG vs ps) (e:List Trm) (he:shortE e):∀ (t i n:Nat),i+t=e.length→t<n→(∀ x∈e.take i,knE vs ps ts x)→∃ b,R62 M109 M105 M108 M110 vs ps ts e n (.l0 i)=some b∧(b=true→rightE e=true∧∀ x∈e,knE vs ps ts x)
 | t,i,0,hi,hn,hk=>by omega
 | 0,i,n+1,hi,hn,hk=>by
   show ∃ b,T62 Ops.std _ _ _ _ vs ps ts e _ some _=some b∧_
   unfold T62
   simp only [qae,qaa]
   rw [if_neg (by omega),he.right,ob_s]
   refine ⟨_,rfl,fun h=>⟨h,?_⟩⟩
   rwa [List.take_of_length_le (by omega)] at hk
 | t+1,i,n+1,hi,hn,hk=>by
   have ih:=qfx hg e he t (i+1) n (by omega) (by omega)
   have h30:=he.1
   obtain ⟨x,hx⟩:∃ x,e.getD i (Ty.dflt ty150)=x:=⟨_,rfl⟩
   have htk:e.take (i+1)=e.take i++[x]:=by
    rw [List.take_succ_eq_append_getElem (by omega)]
    rw [List.getD_eq_getElem?_getD,List.getElem?_eq_getElem (by omega)] at hx
    rw [←hx];rfl
   have nxt:knE vs ps ts x→∀ y∈e.take (i+1),knE vs ps ts y:=fun h y hy=>by
    rw [htk] at hy
    rcases List.mem_append.1 hy with hy | hy
    ·exact hk y hy
    ·simp only [List.mem_singleton] at hy;rw [hy];exact h
   show ∃ b,T62 Ops.std _ _ _ _ vs ps ts e _ some _=some b∧_
   unfold T62
   simp only [qae,qag,qak,qaa,qab,hx,show IntKind.wrap IntKind.i64 ((i:Int)+1)=((i+1:Nat):Int) from qaf (by omega)]
   rw [if_pos (by omega),if_pos (by omega)]
   obtain ⟨r,r1,r2⟩:=qcy vs ps ts hg.v x.2.2.1
   obtain ⟨q,q1,q2⟩:=qdv vs ps ts hg.p x.2.2.1
   obtain ⟨z,z1,z2⟩:=qeg vs ps ts hg.l q q2 x.2.2.2
   by_cases h2:x.1=2
   ·rw [if_pos h2,if_pos (by omega),r1,ob_s]
    by_cases hr:r<0
    ·rw [if_pos hr];exact ⟨_,rfl,fun h=>by cases h⟩
    ·rw [if_neg hr,if_pos (by omega),if_neg (by omega)]
     refine ih (nxt ⟨fun _=>?_,fun h=>by omega⟩)
     rcases r2 with rfl | ⟨k,hk1,rfl⟩
     ·omega
     ·exact ⟨k,hk1,r1⟩
   ·rw [if_neg h2,if_pos (by omega)]
    by_cases h3:x.1=3
    ·rw [if_pos h3,if_pos (by omega),if_pos (by omega),q1,ob_s,z1,ob_s]
     by_cases hz:z<0
     ·rw [if_pos hz];exact ⟨_,rfl,fun h=>by cases h⟩
     ·rw [if_neg hz]
      obtain ⟨q',hq',rfl⟩:=z2 (by omega)
      exact ih (nxt ⟨fun h=>by omega,fun _=>⟨q',z,hq',q1,z1⟩⟩)
    ·rw [if_neg h3]
     exact ih (nxt ⟨fun h=>absurd h h2,fun h=>absurd h h3⟩)
theorem qbn (hg:smallG vs ps) (e:List Trm) (he:shortE e):∃ b,M62 vs ps ts e=some b∧(b=true→rightE e=true∧∀ x∈e,knE vs ps ts x):=by
 show ∃ b,T62 Ops.std M109 M105 M108 M110 vs ps ts e (R62 M109 M105 M108 M110 vs ps ts e 1000000) some none=some b∧_
 unfold T62
 exact qfx ts hg e he e.length 0 1000000 (by omega) (by have:=he.1;omega) (fun x h=>by simp at h)
end
theorem qdw (l:List (List UInt8)) (hl:l.length≤6):∀ (f i j n:Nat),10*(l.length-i)+(l.length-j)+1≤f→f≤n→i≤l.length→j≤i→i<l.length→∃ b,R60 l n (.l1 i j)=some b
 | f,i,j,0,hf,hn,hi,hj,hil=>by omega
 | f,i,j,n+1,hf,hn,hi,hj,hil=>by
   show ∃ b,T60 Ops.std l _ some _=some b
   unfold T60
   simp only [qae,qag,qaa,qab,show IntKind.wrap IntKind.i64 ((i:Int)+1)=((i+1:Nat):Int) from qaf (by omega),show IntKind.wrap IntKind.i64 ((j:Int)+1)=((j+1:Nat):Int) from qaf (by omega)]
   by_cases h:j<i
   ·rw [if_pos (by omega),if_pos (by omega),if_pos (by omega)]
    generalize (l.getD i (Ty.dflt ty9) == l.getD j (Ty.dflt ty9))=b
    cases b with
    | true=>exact ⟨_,rfl⟩
    | false=>exact qdw l hl (f-1) i (j+1) n (by omega) (by omega) hi (by omega) hil
   ·rw [if_neg (by omega)]
    obtain ⟨m,rfl⟩:∃ m,n=m+1:=⟨n-1,by omega⟩
    show ∃ b,T60 Ops.std l _ some _=some b
    unfold T60
    simp only [qae,qaa]
    by_cases h2:i+1<l.length
    ·rw [if_pos (by omega)]
     exact qdw l hl (f-2) (i+1) 0 m (by omega) (by omega) (by omega) (by omega) h2
    ·rw [if_neg (by omega)];exact ⟨_,rfl⟩
theorem twice_ok (l:List (List UInt8)) (hl:l.length≤6):∃ b,M60 l=some b:=by
 show ∃ b,T60 Ops.std l (R60 l 1000000) some none=some b
 unfold T60
 show ∃ b,T60 Ops.std l (R60 l 999999) some _=some b
 unfold T60
 simp only [qae,qaa]
 by_cases h:0<l.length
 ·rw [if_pos (by omega)]
  exact qdw l hl 100 0 0 999999 (by omega) (by omega) (by omega) (by omega) h
 ·rw [if_neg (by omega)];exact ⟨_,rfl⟩
theorem take_ext {α:Type} {P:α→Prop} {l:List α} {i:Nat} (hi:i<l.length) (d:α) (h:∀ x∈l.take i,P x) (hx:P (l.getD i d)):∀ x∈l.take (i+1),P x:=by
 intro x hm
 rw [List.take_succ_eq_append_getElem hi] at hm
 rcases List.mem_append.1 hm with hm | hm
 ·exact h x hm
 ·simp only [List.mem_singleton] at hm
  rw [hm]
  rw [List.getD_eq_getElem?_getD,List.getElem?_eq_getElem hi] at hx
  exact hx
theorem qau {α:Type} {l:List α} {i:Nat} (hi:i<l.length) (d:α):l.getD i d∈l:=by
 rw [List.getD_eq_getElem?_getD,List.getElem?_eq_getElem hi];exact List.getElem_mem hi
structure smallM (vs:List Vrb) (ps:List Pcs) (ts:List Trn):Prop where
 vl:vs.length≤5001
 v:∀ v∈vs,v.1.length≤60000
 pl:ps.length≤5001
 p:∀ p∈ps,p.1.length≤60000∧p.2.length≤60001∧okL 60000 p.2
 tl:ts.length≤5001
 t:∀ t∈ts,okTr t
theorem smallM.g {vs:List Vrb} {ps:List Pcs} {ts:List Trn} (h:smallM vs ps ts):smallG vs ps:=⟨by have:=h.vl;omega,by have:=h.pl;omega,fun p hp=>by have:=(h.p p hp).2.1;omega⟩
def okVar (v:Vrb):Prop:=v.2.1≤v.2.2.2∧v.2.2.2≤v.2.2.1∧-999≤v.2.1∧v.2.2.1≤999
structure goodM (vs:List Vrb) (ps:List Pcs):Prop where
 vl:vs.length≤4
 v:∀ v∈vs,okVar v
 pl:ps.length≤3
 p:∀ p∈ps,1≤p.2.length∧p.2.length≤6
section
variable {vs:List Vrb} {ps:List Pcs} {ts:List Trn} (hM:smallM vs ps ts)
noncomputable abbrev rtR (vs:List Vrb) (ps:List Pcs) (ts:List Trn) (id:Int) (a b c d:List UInt8) (g:List Trm) (ef:List Eff):=R61 M105 M106 M107 M108 M62 M109 vs ps ts id a b c d g ef
include hM in
theorem rt_loop (id:Int) (a b c d:List UInt8) (g:List Trm) (ef:List Eff) (hl:ef.length≤3) (hk:∀ x∈ef,okEf x):∀ (t i n:Nat),i+t=ef.length→t<n→∃ r,rtR vs ps ts id a b c d g ef n (.l0 i)=some r
 | t,i,0,hi,hn=>by omega
 | 0,i,n+1,hi,hn=>by
   show ∃ r,T61 Ops.std _ _ _ _ _ _ vs ps ts id a b c d g ef _ some _=some r
   unfold T61
   simp only [qae,qaa]
   rw [if_neg (by omega)]
   exact ⟨_,rfl⟩
 | t+1,i,n+1,hi,hn=>by
   have ih:=rt_loop id a b c d g ef hl hk t (i+1) n (by omega) (by omega)
   have hx:=hk _ (qau (show i<ef.length by omega) (Ty.dflt ty157))
   show ∃ r,T61 Ops.std _ _ _ _ _ _ vs ps ts id a b c d g ef _ some _=some r
   unfold T61
   obtain ⟨r,r1,_⟩:=qcy vs ps ts hM.g.v (ef.getD i (Ty.dflt ty157)).1
   obtain ⟨q,q1,_⟩:=qbn ts hM.g (ef.getD i (Ty.dflt ty157)).2 hx.short
   simp only [qae,qag,qaa,qab,r1,q1,ob_s,show IntKind.wrap IntKind.i64 ((i:Int)+1)=((i+1:Nat):Int) from qaf (by omega)]
   rw [if_pos (by omega),if_pos (by omega)]
   by_cases hr:r<0
   ·rw [if_pos hr];exact ⟨_,rfl⟩
   ·rw [if_neg hr,if_pos (by omega)]
    cases q with
    | false=>exact ⟨_,rfl⟩
    | true=>exact ih
include hM in
theorem rt_ok (t:Trn) (ht:okTr t):∃ r,M61 vs ps ts t.1 t.2.1 t.2.2.1 t.2.2.2.1 t.2.2.2.2.1 t.2.2.2.2.2.1 t.2.2.2.2.2.2=some r:=by
 obtain ⟨id,a,b,c,d,g,ef⟩:=t
 obtain ⟨h1,h2,h3,h4,h5,h6,h7⟩:=ht
 show ∃ r,T61 Ops.std M105 M106 M107 M108 M62 M109 vs ps ts id a b c d g ef (rtR vs ps ts id a b c d g ef 1000000) some none=some r
 unfold T61
 obtain ⟨p,p1,p2⟩:=qdv vs ps ts hM.g.p a
 obtain ⟨ch,ok,c1⟩:=qdu d (by simp only at h4;omega)
 obtain ⟨x,x1,_⟩:=qeg vs ps ts hM.g.l p p2 b
 obtain ⟨y,y1,_⟩:=qeg vs ps ts hM.g.l p p2 c
 obtain ⟨q,q1,_⟩:=qbn ts hM.g g h5
 simp only [p1,c1,id_ok,x1,y1,q1,ob_s,qae,qaa]
 cases decide (1≤id∧id≤999) with
 | false=>exact ⟨_,rfl⟩
 | true=>
 cases ok with
 | false=>exact ⟨_,rfl⟩
 | true=>
 simp only [Bool.not_true,cond_false]
 by_cases hx:x<0
 ·rw [if_pos hx];exact ⟨_,rfl⟩
 ·rw [if_neg hx]
  by_cases hy:y<0
  ·rw [if_pos hy];exact ⟨_,rfl⟩
  ·rw [if_neg hy]
   cases q with
   | false=>exact ⟨_,rfl⟩
   | true=>
   simp only [Bool.not_true,cond_false]
   by_cases h3:(3:Int)<((ef.length:Nat):Int)
   ·rw [if_pos h3];exact ⟨_,rfl⟩
   ·rw [if_neg h3]
    exact rt_loop hM id a b c d g ef (by omega) h7 ef.length 0 1000000 (by omega) (by omega)
noncomputable abbrev rmR (vs:List Vrb) (ps:List Pcs) (ts:List Trn):=R18 M58 M59 M60 M61 vs ps ts
include hM in
theorem rm_l3 (h16:ts.length≤16):∀ (t i n:Nat),i+t=ts.length→2*t<n→∃ r,rmR vs ps ts n (.l3 i)=some r
 | t,i,0,hi,hn=>by omega
 | 0,i,n+1,hi,hn=>by
   show ∃ r,T18 Ops.std _ _ _ _ vs ps ts _ some _=some r
   unfold T18
   simp only [qae,qaa]
   rw [if_neg (by omega)]
   exact ⟨_,rfl⟩
 | t+1,i,n+1,hi,hn=>by
   obtain ⟨m,rfl⟩:∃ m,n=m+1:=⟨n-1,by omega⟩
   have ih:=rm_l3 h16 t (i+1) m (by omega) (by omega)
   have h25:rmR vs ps ts (m+1) (.l1025 i)=rmR vs ps ts m (.l3 ((i+1:Nat):Int)):=by
    show T18 Ops.std _ _ _ _ vs ps ts _ some _=_
    unfold T18
    simp only [show IntKind.wrap IntKind.i64 ((i:Int)+1)=((i+1:Nat):Int) from qaf (by omega)]
   obtain ⟨r,r1⟩:=rt_ok hM (ts.getD i (Ty.dflt ty103)) (hM.t _ (qau (by omega) _))
   show ∃ r,T18 Ops.std _ _ _ _ vs ps ts _ some _=some r
   unfold T18
   simp only [qae,qan,qag,qaa,qab,r1,ob_s]
   rw [if_pos (by omega),if_pos (by omega)]
   cases r with
   | false=>exact ⟨_,rfl⟩
   | true=>
   simp only [Bool.not_true,cond_false]
   by_cases h0:(0:Int)<(i:Int)
   ·rw [if_pos h0,if_pos (by omega),show IntKind.wrap IntKind.i64 ((i:Int)-1)=((i-1:Nat):Int) by rw [wrap64 (by omega) (by omega)];omega,if_pos (by omega)]
    split
    ·exact ⟨_,rfl⟩
    ·obtain ⟨r,hr⟩:=ih;exact ⟨r,h25.trans hr⟩
   ·rw [if_neg h0];obtain ⟨r,hr⟩:=ih;exact ⟨r,h25.trans hr⟩
theorem rm_l2 (Q:Bool→Prop) (hQ:Q false) (i:Nat) (hi:i<100000) (vn pn:List (List UInt8)) (nm:List UInt8) (locs:List (List UInt8)) (hl:locs.length≤6) (hk:okL 60000 locs) (N:Nat) (hc:∀ m,N≤m→∃ r,rmR vs ps ts m (.l1 ((i+1:Nat):Int) vn pn)=some r∧Q r) :
  ∀ (t j n:Nat),j+t=locs.length→N+t<n→∃ r,rmR vs ps ts n (.l2 i j vn pn nm locs)=some r∧Q r
 | t,j,0,hj,hn=>by omega
 | 0,j,n+1,hj,hn=>by
   show ∃ r,T18 Ops.std _ _ _ _ vs ps ts _ some _=some r∧_
   unfold T18
   simp only [qae,qaa,show IntKind.wrap IntKind.i64 ((i:Int)+1)=((i+1:Nat):Int) from qaf (by omega)]
   rw [if_neg (by omega)]
   exact hc n (by omega)
 | t+1,j,n+1,hj,hn=>by
   have ih:=rm_l2 Q hQ i hi vn pn nm locs hl hk N hc t (j+1) n (by omega) (by omega)
   show ∃ r,T18 Ops.std _ _ _ _ vs ps ts _ some _=some r∧_
   unfold T18
   have hlen:=hk.get j
   simp only [qae,qag,qaa,qab,show IntKind.wrap IntKind.i64 ((j:Int)+1)=((j+1:Nat):Int) from qaf (by omega)]
   rw [if_pos (by omega),if_pos (by omega),qaw _ (by have:(locs.getD j (Ty.dflt ty9)).length≤60000:=hlen;omega),ob_s]
   cases isWordP (locs.getD j (Ty.dflt ty9)) with
   | false=>exact ⟨false,rfl,hQ⟩
   | true=>exact ih
include hM in
theorem rm_l1 (hv:vs.length≤4→∀ v∈vs,okVar v):∀ (t i n:Nat) (vn pn:List (List UInt8)),i+t=ps.length→12*t+100<n→vn.length=vs.length→pn.length=i→(∀ p∈ps.take i,1≤p.2.length∧p.2.length≤6)→∃ r,rmR vs ps ts n (.l1 i vn pn)=some r∧(r=true→goodM vs ps)
 | t,i,0,vn,pn,hi,hn,h1,h2,hk=>by omega
 | 0,i,n+1,vn,pn,hi,hn,h1,h2,hk=>by
   show ∃ r,T18 Ops.std _ _ _ _ vs ps ts _ some _=some r∧_
   unfold T18
   simp only [qae,qaa]
   rw [if_neg (by omega)]
   have bad:∃ r:Bool,(some false:Option Bool)=some r∧(r=true→goodM vs ps):=⟨false,rfl,fun h=>by cases h⟩
   by_cases c1:(4:Int)<((vn.length:Nat):Int)
   ·rw [if_pos c1];exact bad
   ·rw [if_neg c1]
    by_cases c2:((pn.length:Nat):Int)<1
    ·rw [if_pos c2];exact bad
    ·rw [if_neg c2]
     by_cases c3:(3:Int)<((pn.length:Nat):Int)
     ·rw [if_pos c3];exact bad
     ·rw [if_neg c3]
      by_cases c4:(16:Int)<((ts.length:Nat):Int)
      ·rw [if_pos c4];exact bad
      ·rw [if_neg c4]
       obtain ⟨x,x1⟩:=twice_ok vn (by omega)
       obtain ⟨y,y1⟩:=twice_ok pn (by omega)
       rw [x1,ob_s]
       cases x with
       | true=>exact bad
       | false=>
       simp only [cond_false]
       rw [y1,ob_s]
       cases y with
       | true=>exact bad
       | false=>
       simp only [cond_false]
       obtain ⟨m,rfl⟩:∃ m,n=m+1:=⟨n-1,by omega⟩
       have h23:rmR vs ps ts (m+1) .l1023=rmR vs ps ts m (.l3 0):=rfl
       obtain ⟨r,r1⟩:=rm_l3 hM (by omega) ts.length 0 m (by omega) (by omega)
       refine ⟨r,h23.trans r1,fun _=>⟨by omega,hv (by omega),by omega,?_⟩⟩
       rwa [List.take_of_length_le (by omega)] at hk
 | t+1,i,n+1,vn,pn,hi,hn,h1,h2,hk=>by
   have hpl:=hM.pl
   have hx:=hM.p _ (qau (show i<ps.length by omega) (Ty.dflt ty98))
   have bad:∃ r:Bool,(some false:Option Bool)=some r∧(r=true→goodM vs ps):=⟨false,rfl,fun h=>by cases h⟩
   show ∃ r,T18 Ops.std _ _ _ _ vs ps ts _ some _=some r∧_
   unfold T18
   simp only [qae,qag,qam,qaa,qab,mt,List.length_cons,List.length_nil]
   rw [if_pos (by omega),if_pos (by omega),if_pos (by omega),qaw _ (by have:=hx.1;omega),ob_s]
   cases isWordP (ps.getD i (Ty.dflt ty98)).1 with
   | false=>exact bad
   | true=>
   simp only [Bool.not_true,cond_false]
   by_cases c1:(((ps.getD i (Ty.dflt ty98)).2.length:Nat):Int)<1
   ·rw [if_pos c1];exact bad
   ·rw [if_neg c1]
    by_cases c2:(6:Int)<(((ps.getD i (Ty.dflt ty98)).2.length:Nat):Int)
    ·rw [if_pos c2];exact bad
    ·rw [if_neg c2]
     obtain ⟨x,x1⟩:=twice_ok (ps.getD i (Ty.dflt ty98)).2 (by omega)
     rw [x1,ob_s]
     cases x with
     | true=>exact bad
     | false=>
     simp only [cond_false]
     obtain ⟨m,rfl⟩:∃ m,n=m+1:=⟨n-1,by omega⟩
     have h16:∀ vn pn nm locs,rmR vs ps ts (m+1) (.l1016 i vn pn nm locs)=rmR vs ps ts m (.l2 i 0 vn pn nm locs):=fun _ _ _ _=>rfl
     obtain ⟨r,r1,r2⟩:=rm_l2 (ts:=ts) (fun r=>r=true→goodM vs ps) (fun h=>by cases h) i (by omega) vn (pn++[(ps.getD i (Ty.dflt ty98)).1]) (ps.getD i (Ty.dflt ty98)).1 (ps.getD i (Ty.dflt ty98)).2 (by omega) hx.2.2 (12*t+101)
      (fun k hkk=>rm_l1 hv t (i+1) k vn (pn++[(ps.getD i (Ty.dflt ty98)).1]) (by omega) (by omega) h1 (by simp;omega) (take_ext (by omega) (Ty.dflt ty98) hk ⟨by omega,by omega⟩)) _ 0 m (Nat.zero_add _) (by omega)
     exact ⟨r,(h16 _ _ _ _).trans r1,r2⟩
include hM in
theorem rm_l0:∀ (t i n:Nat) (vn:List (List UInt8)),i+t=vs.length→2*t+70000<n→vn.length=i→(∀ v∈vs.take i,okVar v)→∃ r,rmR vs ps ts n (.l0 i vn)=some r∧(r=true→goodM vs ps)
 | t,i,0,vn,hi,hn,h1,hk=>by omega
 | 0,i,n+1,vn,hi,hn,h1,hk=>by
   have hpl:=hM.pl
   show ∃ r,T18 Ops.std _ _ _ _ vs ps ts _ some _=some r∧_
   unfold T18
   simp only [qae,qaa]
   rw [if_neg (by omega)]
   rw [List.take_of_length_le (by omega)] at hk
   exact rm_l1 hM (fun _=>hk) ps.length 0 n vn [] (by omega) (by omega) (by omega) rfl (fun p h=>by simp at h)
 | t+1,i,n+1,vn,hi,hn,h1,hk=>by
   have hvl:=hM.vl
   obtain ⟨m,rfl⟩:∃ m,n=m+1:=⟨n-1,by omega⟩
   have h04:∀ vn,rmR vs ps ts (m+1) (.l1004 i vn)=rmR vs ps ts m (.l0 ((i+1:Nat):Int) vn):=fun vn=>by
    show T18 Ops.std _ _ _ _ vs ps ts _ some _=_
    unfold T18
    simp only [show IntKind.wrap IntKind.i64 ((i:Int)+1)=((i+1:Nat):Int) from qaf (by omega)]
   have hx:=hM.v _ (qau (show i<vs.length by omega) (Ty.dflt ty94))
   have bad:∃ r:Bool,(some false:Option Bool)=some r∧(r=true→goodM vs ps):=⟨false,rfl,fun h=>by cases h⟩
   have ih:=rm_l0 t (i+1) m
   show ∃ r,T18 Ops.std _ _ _ _ vs ps ts _ some _=some r∧_
   unfold T18
   obtain ⟨x,hxe⟩:∃ x,vs.getD i (Ty.dflt ty94)=x:=⟨_,rfl⟩
   rw [hxe] at hx
   simp only [qae,qag,qam,qaa,qab,mt,List.length_cons,List.length_nil,hxe,w999_ok,ob_s]
   rw [if_pos (by omega),if_pos (by omega),if_pos (by omega),qaw _ (by omega),ob_s]
   cases isWordP x.1 with
   | false=>exact bad
   | true=>
   simp only [Bool.not_true,cond_false,qas,qaa]
   by_cases c1:x.2.2.2<x.2.1
   ·rw [if_pos c1];exact bad
   ·rw [if_neg c1]
    by_cases c2:x.2.2.1<x.2.2.2
    ·rw [if_pos c2];exact bad
    ·rw [if_neg c2]
     by_cases c3:-999≤x.2.1∧x.2.1≤999
     ·rw [if_neg (fun h=>h c3)]
      by_cases c4:-999≤x.2.2.1∧x.2.2.1≤999
      ·rw [if_neg (fun h=>h c4)]
       obtain ⟨r,r1,r2⟩:=ih (vn++[x.1]) (by omega) (by omega) (by simp;omega) (take_ext (by omega) (Ty.dflt ty94) hk (by rw [hxe];exact ⟨by omega,by omega,c3.1,c4.2⟩))
       exact ⟨r,(h04 _).trans r1,r2⟩
      ·rw [if_pos c4];exact bad
     ·rw [if_pos c3];exact bad
include hM in
theorem qa5:∃ r,M18 vs ps ts=some r∧(r=true→goodM vs ps):=by
 have hvl:=hM.vl
 show ∃ r,T18 Ops.std M58 M59 M60 M61 vs ps ts (rmR vs ps ts 1000000) some none=some r∧_
 unfold T18
 exact rm_l0 hM vs.length 0 1000000 [] (by omega) (by omega) rfl (fun v h=>by simp at h)
end
theorem smallM_nil:smallM [] [] []:=⟨by simp,fun v h=>(by cases h),by simp,fun v h=>(by cases h),by simp,fun v h=>by cases h⟩
def rightOr (vs:List Vrb) (ps:List Pcs) (ts:List Trn):Prop:=smallM vs ps ts∧((M18 vs ps ts=some true∧goodM vs ps)∨(vs=[]∧ps=[]∧ts=[]))
theorem qe6:rightOr [] [] []:=⟨smallM_nil,.inr ⟨rfl,rfl,rfl⟩⟩
noncomputable abbrev pmR (s:List UInt8):=R47 M86 M87 M88 M90 M89 M18 s
structure soFar (vs:List Vrb) (ps:List Pcs) (ts:List Trn) (i:Nat):Prop where
 vl:vs.length≤i
 v:∀ v∈vs,v.1.length≤60000
 pl:ps.length≤i
 p:∀ p∈ps,p.1.length≤60000∧p.2.length≤60001∧okL 60000 p.2
 tl:ts.length≤i
 t:∀ t∈ts,okTr t
theorem mem_app {α:Type} {P:α→Prop} {l:List α} {x:α} (h:∀ y∈l,P y) (hx:P x):∀ y∈l++[x],P y:=fun y hy=>by
 rcases List.mem_append.1 hy with hy | hy
 ·exact h y hy
 ·simp only [List.mem_singleton] at hy;rw [hy];exact hx
theorem pm_loop (s:List UInt8) (L:List (List UInt8)) (hL:L.length≤5001) (hk:okL 5000 L):∀ (t i n:Nat) (st:Int) (vs:List Vrb) (ps:List Pcs) (ts:List Trn),i+t=L.length→t<n→soFar vs ps ts i→
  ∃ vs' ps' ts' e x,pmR s n (.l0 st i L vs ps ts)=some (vs',ps',ts',e,x)∧rightOr vs' ps' ts'
 | t,i,0,st,vs,ps,ts,hi,hn,hs=>by omega
 | 0,i,n+1,st,vs,ps,ts,hi,hn,hs=>by
   have bad:∃ vs' ps' ts' e x,(some (([]:List Vrb),([]:List Pcs),([]:List Trn),(2:Int),(0:Int)))=some (vs',ps',ts',e,x)∧rightOr vs' ps' ts':=⟨_,_,_,_,_,rfl,qe6⟩
   have hM:smallM vs ps ts:=⟨by have:=hs.vl;omega,hs.v,by have:=hs.pl;omega,hs.p,by have:=hs.tl;omega,hs.t⟩
   show ∃ vs' ps' ts' e x,T47 Ops.std _ _ _ _ _ _ s _ some _=some (vs',ps',ts',e,x)∧_
   unfold T47
   simp only [qae,qaa]
   rw [if_neg (by omega)]
   obtain ⟨r,r1,r2⟩:=qa5 hM
   rw [r1,ob_s]
   cases r with
   | false=>exact bad
   | true=>exact ⟨_,_,_,_,_,rfl,hM,.inl ⟨r1,r2 rfl⟩⟩
 | t+1,i,n+1,st,vs,ps,ts,hi,hn,hs=>by
   have ih:=fun st vs ps ts=>pm_loop s L hL hk t (i+1) n st vs ps ts (by omega) (by omega)
   have hmono:soFar vs ps ts (i+1):=⟨by have:=hs.vl;omega,hs.v,by have:=hs.pl;omega,hs.p,by have:=hs.tl;omega,hs.t⟩
   have bad:∀ k:Int,∃ vs' ps' ts' e x,(some (([]:List Vrb),([]:List Pcs),([]:List Trn),(2:Int),k))=some (vs',ps',ts',e,x)∧rightOr vs' ps' ts':=fun k=>⟨_,_,_,_,_,rfl,qe6⟩
   have hvl:=hs.vl
   have hpl:=hs.pl
   have htl:=hs.tl
   show ∃ vs' ps' ts' e x,T47 Ops.std _ _ _ _ _ _ s _ some _=some (vs',ps',ts',e,x)∧_
   unfold T47
   have hlen:(L.getD i (Ty.dflt ty9)).length≤5000:=hk.get i
   simp only [qae,qag,qam,qas,qaa,qab,mt,List.length_cons,List.length_nil,show IntKind.wrap IntKind.i64 ((i:Int)+1)=((i+1:Nat):Int) from qaf (by omega)]
   rw [if_pos (by omega),if_pos (by omega)]
   cases (L.getD i (Ty.dflt ty9)) == ([]:List UInt8) with
   | true=>exact ih st vs ps ts hmono
   | false=>
   simp only [cond_false]
   rw [if_pos (by omega)]
   obtain ⟨w,w1,w2,w3⟩:=words_ok (L.getD i (Ty.dflt ty9)) (by omega)
   rw [w1,ob_s]
   have w3':okL 60000 w:=fun x hx=>by have:=w3 x hx;omega
   by_cases h0:(0:Int)<((w.length:Nat):Int)
   ·rw [if_pos h0,if_pos (by omega)]
    cases (w.getD (Int.toNat 0) (Ty.dflt ty9)) == ([118,97,114]:List UInt8) with
    | true=>
      simp only [cond_true]
      obtain ⟨nm,lo,hi',ini,ok,v1,v2⟩:=parseVar_ok (List.drop (Int.toNat 1) (List.take w.length w)) 60000 (fun x hx=>w3' x (List.mem_of_mem_take (List.mem_of_mem_drop hx)))
      rw [if_pos (by omega),v1,ob_s]
      dsimp only
      rw [if_pos (by omega)]
      cases ok with
      | false=>exact bad _
      | true=>
      simp only [Bool.not_true,cond_false]
      split
      ·exact bad _
      ·exact ih _ _ _ _ ⟨by simp;omega,mem_app hs.v v2,by omega,hs.p,by omega,hs.t⟩
    | false=>
    simp only [cond_false]
    cases (w.getD (Int.toNat 0) (Ty.dflt ty9)) == ([112,114,111,99]:List UInt8) with
    | true=>
      simp only [cond_true]
      by_cases h1:(1:Int)<((w.length:Nat):Int)
      ·rw [if_pos h1,if_pos (by omega),if_pos (by omega),if_pos (by omega),if_neg (fun h=>h h1)]
       split
       ·exact bad _
       ·exact ih _ _ _ _ ⟨by omega,hs.v,by simp;omega,mem_app hs.p ⟨w3'.get (Int.toNat 1),by simp;omega,fun x hx=>w3' x (List.mem_of_mem_take (List.mem_of_mem_drop hx))⟩,by omega,hs.t⟩
      ·rw [if_neg h1,if_pos h1];exact bad _
    | false=>
    simp only [cond_false]
    cases (w.getD (Int.toNat 0) (Ty.dflt ty9)) == ([116,114,97,110,115]:List UInt8) with
    | true=>
      simp only [cond_true]
      obtain ⟨r,r1,r2⟩:=skip_ok (L.getD i (Ty.dflt ty9)) (by omega) 1 (by omega)
      have r1':M90 (L.getD i (Ty.dflt ty9)) 1=some r:=r1
      obtain ⟨id,a,b,c,d,g,ef,ok,t1,t2⟩:=parseTrans_ok r (by omega)
      rw [if_pos (by omega),r1',ob_s,t1,ob_s]
      dsimp only
      rw [if_pos (by omega)]
      cases ok with
      | false=>exact bad _
      | true=>
      simp only [Bool.not_true,cond_false]
      split
      ·exact bad _
      ·exact ih _ _ _ _ ⟨by omega,hs.v,by omega,hs.p,by simp;omega,mem_app hs.t t2⟩
    | false=>exact bad _
   ·rw [if_neg h0];exact bad _
theorem parseModel_ok (s:List UInt8) (hs:s.length≤5000):∃ vs ps ts e x,M47 s=some (vs,ps,ts,e,x)∧rightOr vs ps ts:=by
 show ∃ vs ps ts e x,T47 Ops.std M86 M87 M88 M90 M89 M18 s (pmR s 1000000) some none=some (vs,ps,ts,e,x)∧_
 unfold T47
 simp only [qae,qaa]
 rw [if_neg (by omega)]
 obtain ⟨L,l1,l2,l3,l4⟩:=cut_ok s (by omega) 10
 rw [l1,ob_s]
 exact pm_loop s L (by omega) (fun x hx=>by have:=l4 x hx;omega) L.length 0 1000000 0 [] [] [] (by omega) (by omega) ⟨by simp,fun v h=>(by cases h),by simp,fun v h=>(by cases h),by simp,fun v h=>by cases h⟩
theorem Model_ok2 (p0 p1:Int) (p2:List (List Int)):∃ vs ps ts,M12 p0 p1 p2=some (vs,ps,ts)∧rightOr vs ps ts:=by
 obtain ⟨s,s1,s2⟩:=Text_ok p0 p1 p2
 obtain ⟨vs,ps,ts,e,x,h1,h2⟩:=parseModel_ok s s2
 refine ⟨vs,ps,ts,?_,h2⟩
 show T12 Ops.std M48 M47 p0 p1 p2 some=_
 unfold T12
 rw [s1,ob_s,h1,ob_s]
theorem goodM_nil:goodM [] []:=⟨by simp,fun v h=>(by cases h),by simp,fun p h=>by cases h⟩
theorem rightOr.good {vs:List Vrb} {ps:List Pcs} {ts:List Trn} (h:rightOr vs ps ts):goodM vs ps:=by
 rcases h.2 with h | ⟨rfl,rfl,rfl⟩
 ·exact h.2
 ·exact goodM_nil
def fnB (l:List Bool) (i:Nat):Bool:=l.getD i (Ty.dflt ty4)
theorem qdx (l:List Bool) (i:Nat) (hi:i<l.length) (v:Bool) (j:Nat):fnB (l.set i v) j=if j=i then v else fnB l j:=by
 unfold fnB
 rw [List.getD_eq_getElem?_getD,List.getD_eq_getElem?_getD,List.getElem?_set]
 by_cases h:i=j
 ·subst h;simp [hi]
 ·rw [if_neg h,if_neg (Ne.symm h)]
def stepB (op:Int) (a b:Nat→Bool) (i j:Nat) (o:Nat→Bool):Bool:=
 if op=4 then !a i
 else if op=5 then a i && b i
 else if op=6 then a i || b i
 else if op=7 then !a i || b i
 else if op=8 then a j
 else if op=9 then b i || (a i && o j)
 else if op=10 then b i && (a i || o j)
 else if op=11 then a i || o j
 else if op=12 then a i && o j
 else o i
def swL (op:Int) (a b:List Bool) (n back:Nat):Nat→List Bool→List Bool
 | 0,out=>out
 | k+1,out=>swL op a b n back k (out.set k (stepB op (fnB a) (fnB b) k (nx n back k) (fnB out)))
theorem qb5 (op:Int) (a b:List Bool) (n back:Nat):∀ (k:Nat) (out:List Bool),(swL op a b n back k out).length=out.length
 | 0,out=>rfl
 | k+1,out=>by rw [swL,qb5 op a b n back k];simp
section
variable (op:Int) (a b:List Bool) (n back:Nat) (hb:back<n) (hn:n≤100)
noncomputable abbrev trR:=R66 op a b (n:Nat) (back:Nat)
def lensOk:Prop:=(op=4∨op=5∨op=6∨op=7∨op=8∨op=9∨op=10∨op=11∨op=12→a.length=n)∧(op=5∨op=6∨op=7∨op=9∨op=10→b.length=n)
include hb in
theorem tr_1015 (hl:lensOk op a b n) (m r i:Nat) (hi:i<n) (out:List Bool) (ho:out.length=n) :
  trR op a b n back (m+1) (.l1015 r i (nx n back i:Nat) out)=trR op a b n back m (.l1011 r i (out.set i (stepB op (fnB a) (fnB b) i (nx n back i) (fnB out)))):=by
 have hj:=qe3 n back hb hi
 obtain ⟨la,lb⟩:=hl
 have hset:out.set i (out.getD i (Ty.dflt ty4))=out:=by
  apply List.ext_getElem?
  intro k
  rw [List.getElem?_set]
  by_cases hk:i=k
  ·subst hk
   rw [if_pos rfl,if_pos (by omega),List.getD_eq_getElem?_getD,List.getElem?_eq_getElem (by omega)];rfl
  ·rw [if_neg hk]
 show T66 Ops.std op a b (n:Nat) (back:Nat) _ some _=_
 unfold T66 stepB
 simp only [qak,qag,qaa,qab,ho]
 have ci:(0:Int)≤(i:Int)∧(i:Int)<((n:Nat):Int):=by omega
 have cj:(0:Int)≤((nx n back i:Nat):Int)∧((nx n back i:Nat):Int)<((n:Nat):Int):=by omega
 by_cases h4:op=4
 ·rw [if_pos h4,if_pos h4,la (by omega)];simp only [if_pos ci,if_pos cj];rfl
 rw [if_neg h4,if_neg h4]
 by_cases h5:op=5
 ·rw [if_pos h5,if_pos h5,la (by omega),lb (by omega)];simp only [if_pos ci,if_pos cj]
  show cond (fnB a i) _ _=_
  cases fnB a i<;>rfl
 rw [if_neg h5,if_neg h5]
 by_cases h6:op=6
 ·rw [if_pos h6,if_pos h6,la (by omega),lb (by omega)];simp only [if_pos ci,if_pos cj]
  show cond (fnB a i) _ _=_
  cases fnB a i<;>rfl
 rw [if_neg h6,if_neg h6]
 by_cases h7:op=7
 ·rw [if_pos h7,if_pos h7,la (by omega),lb (by omega)];simp only [if_pos ci,if_pos cj]
  show cond (!fnB a i) _ _=_
  cases fnB a i<;>rfl
 rw [if_neg h7,if_neg h7]
 by_cases h8:op=8
 ·rw [if_pos h8,if_pos h8,la (by omega)];simp only [if_pos ci,if_pos cj];rfl
 rw [if_neg h8,if_neg h8]
 by_cases h9:op=9
 ·rw [if_pos h9,if_pos h9,la (by omega),lb (by omega)];simp only [if_pos ci,if_pos cj]
  show cond (fnB b i) _ (cond (fnB a i) _ _)=_
  cases fnB b i<;>cases fnB a i<;>rfl
 rw [if_neg h9,if_neg h9]
 by_cases h10:op=10
 ·rw [if_pos h10,if_pos h10,la (by omega),lb (by omega)];simp only [if_pos ci,if_pos cj]
  show cond (fnB b i) (cond (fnB a i) _ _) _=_
  cases fnB b i<;>cases fnB a i<;>rfl
 rw [if_neg h10,if_neg h10]
 by_cases h11:op=11
 ·rw [if_pos h11,if_pos h11,la (by omega)];simp only [if_pos ci,if_pos cj]
  show cond (fnB a i) _ _=_
  cases fnB a i<;>rfl
 rw [if_neg h11,if_neg h11]
 by_cases h12:op=12
 ·rw [if_pos h12,if_pos h12,la (by omega)];simp only [if_pos ci,if_pos cj]
  show cond (fnB a i) _ _=_
  cases fnB a i<;>rfl
 rw [if_neg h12,if_neg h12]
 show _=trR op a b n back m (.l1011 r i (out.set i (out.getD i (Ty.dflt ty4))))
 rw [hset]
include hb hn in
theorem tr_step (hl:lensOk op a b n) (m r i:Nat) (hr:r<1000) (hi:i<n) (out:List Bool) (ho:out.length=n) :
  trR op a b n back (m+3) (.l2 r ((i+1:Nat)-1:Int) out)=trR op a b n back m (.l2 r ((i:Nat)-1:Int) (out.set i (stepB op (fnB a) (fnB b) i (nx n back i) (fnB out)))):=by
 have h2:trR op a b n back (m+2+1) (.l2 r (i:Nat) out)=trR op a b n back (m+2) (.l1015 r i (nx n back i:Nat) out):=by
  show T66 Ops.std op a b (n:Nat) (back:Nat) _ some _=_
  unfold T66
  simp only [qan,qak,qaa]
  rw [if_pos (by omega),show IntKind.wrap IntKind.i64 ((i:Int)+1)=((i+1:Nat):Int) from qaf (by omega)]
  unfold nx
  by_cases h:i+1=n
  ·rw [if_pos (by omega),if_pos h]
  ·rw [if_neg (by omega),if_neg h]
 have e1:((i+1:Nat)-1:Int)=(i:Nat):=by omega
 rw [e1]
 refine h2.trans ((tr_1015 op a b n back hb hl (m+1) r i hi out ho).trans ?_)
 show T66 Ops.std op a b (n:Nat) (back:Nat) _ some _=_
 unfold T66
 simp only [wrap64 (show -9223372036854775808≤(i:Int)-1 by omega) (by omega)]
include hb hn in
theorem tr_sweep (hl:lensOk op a b n) (r:Nat) (hr:r<1000):∀ (k:Nat),k≤n→∀ (m:Nat) (out:List Bool),out.length=n→
  trR op a b n back (m+3*k) (.l2 r ((k:Nat)-1:Int) out)=trR op a b n back m (.l2 r (-1) (swL op a b n back k out))
 | 0,hk,m,out,ho=>rfl
 | k+1,hk,m,out,ho=>by
   have h1:=tr_step op a b n back hb hn hl (m+3*k) r k hr (by omega) out ho
   rw [show m+3*(k+1)=m+3*k+3 by omega]
   refine h1.trans ?_
   exact tr_sweep hl r hr k (by omega) m _ (by simp [ho])
def swN (k:Nat) (out:List Bool):List Bool:=match k with
 | 0=>out
 | k+1=>swN k (swL op a b n back n out)
theorem swN_len:∀ (k:Nat) (out:List Bool),(swN op a b n back k out).length=out.length
 | 0,out=>rfl
 | k+1,out=>by rw [swN,swN_len k,qb5]
include hb hn in
theorem tr_last (hop:op=9∨op=10∨op=11∨op=12) (hl:lensOk op a b n):∀ (t r f:Nat),r+t=n+2→400*t<f→∀ (out:List Bool),out.length=n→trR op a b n back f (.l1 r out)=some (swN op a b n back t out)
 | 0,r,f,hr,hf,out,ho=>by
   obtain ⟨g,rfl⟩:∃ g,f=g+1:=⟨f-1,by omega⟩
   show T66 Ops.std op a b (n:Nat) (back:Nat) _ some _=_
   unfold T66
   simp only [qan,qaa,show IntKind.wrap IntKind.i64 ((n:Int)+1)=((n+1:Nat):Int) from qaf (by omega)]
   rw [if_neg (by omega)]
   rfl
 | t+1,r,f,hr,hf,out,ho=>by
   obtain ⟨g,rfl⟩:∃ g,f=(g+1+1)+3*n+1:=⟨f-3*n-3,by omega⟩
   have h1:trR op a b n back ((g+1+1)+3*n+1) (.l1 r out)=trR op a b n back ((g+1+1)+3*n) (.l2 r ((n:Nat)-1:Int) out):=by
    show T66 Ops.std op a b (n:Nat) (back:Nat) _ some _=_
    unfold T66
    simp only [qan,qaa,show IntKind.wrap IntKind.i64 ((n:Int)+1)=((n+1:Nat):Int) from qaf (by omega),wrap64 (show -9223372036854775808≤(n:Int)-1 by omega) (by omega)]
    rw [if_pos (by omega)]
   have h2:=tr_sweep op a b n back hb hn hl r (by omega) n (Nat.le_refl _) (g+1+1) out ho
   have h3:trR op a b n back (g+1+1) (.l2 r (-1) (swL op a b n back n out))=trR op a b n back g (.l1 ((r+1:Nat):Int) (swL op a b n back n out)):=by
    have e:trR op a b n back (g+1+1) (.l2 r (-1) (swL op a b n back n out))=trR op a b n back (g+1) (.l1008 r (swL op a b n back n out)):=by
     show T66 Ops.std op a b (n:Nat) (back:Nat) _ some _=_
     unfold T66
     simp only [qan,qak,qas,qaa]
     rw [if_neg (by omega)]
     rcases hop with h | h | h | h
     ·rw [if_neg (fun x=>x h)]
     ·rw [if_pos (by omega),if_neg (fun x=>x h)]
     ·rw [if_pos (by omega),if_pos (by omega),if_neg (fun x=>x h)]
     ·rw [if_pos (by omega),if_pos (by omega),if_pos (by omega),if_neg (fun x=>x h)]
    refine e.trans ?_
    show T66 Ops.std op a b (n:Nat) (back:Nat) _ some _=_
    unfold T66
    simp only [show IntKind.wrap IntKind.i64 ((r:Int)+1)=((r+1:Nat):Int) from qaf (by omega)]
   refine h1.trans (h2.trans (h3.trans ?_))
   exact tr_last hop hl t (r+1) g (by omega) (by omega) _ (by rw [qb5];exact ho)
include hb hn in
theorem tr_once (hop:op≠9∧op≠10∧op≠11∧op≠12) (hl:lensOk op a b n) (f:Nat) (hf:400<f) (out:List Bool) (ho:out.length=n):trR op a b n back f (.l1 0 out)=some (swL op a b n back n out):=by
 obtain ⟨g,rfl⟩:∃ g,f=(g+1)+3*n+1:=⟨f-3*n-2,by omega⟩
 have h1:trR op a b n back ((g+1)+3*n+1) (.l1 0 out)=trR op a b n back ((g+1)+3*n) (.l2 (0:Nat) ((n:Nat)-1:Int) out):=by
  show T66 Ops.std op a b (n:Nat) (back:Nat) _ some _=_
  unfold T66
  simp only [qan,qaa,show IntKind.wrap IntKind.i64 ((n:Int)+1)=((n+1:Nat):Int) from qaf (by omega),wrap64 (show -9223372036854775808≤(n:Int)-1 by omega) (by omega)]
  rw [if_pos (by omega)]
  rfl
 have h2:=tr_sweep op a b n back hb hn hl 0 (by omega) n (Nat.le_refl _) (g+1) out ho
 refine h1.trans (h2.trans ?_)
 show T66 Ops.std op a b (n:Nat) (back:Nat) _ some _=_
 unfold T66
 simp only [qan,qak,qas,qaa]
 rw [if_neg (by omega),if_pos hop.1,if_pos hop.2.1,if_pos hop.2.2.1,if_pos hop.2.2.2]
def ini (op:Int):Bool:=decide (op=10∨op=12∨op=1)
include hn in
theorem tr_init:∀ (t i f:Nat),i+t=n→2*t+1<f→∀ (out:List Bool),out.length=n→(∀ j,j<i→fnB out j=ini op)→∃ (g:Nat) (out':List Bool),f≤g+2*t+1∧trR op a b n back f (.l0 i out)=trR op a b n back g (.l1 0 out')∧out'.length=n∧∀ j,j<n→fnB out' j=ini op
 | 0,i,f,hi,hf,out,ho,hk=>by
   obtain ⟨g,rfl⟩:∃ g,f=g+1:=⟨f-1,by omega⟩
   refine ⟨g,out,by omega,?_,ho,fun j hj=>hk j (by omega)⟩
   show T66 Ops.std op a b (n:Nat) (back:Nat) _ some _=_
   unfold T66
   simp only [qae,qaa]
   rw [if_neg (by omega)]
 | t+1,i,f,hi,hf,out,ho,hk=>by
   obtain ⟨g,rfl⟩:∃ g,f=g+1+1:=⟨f-2,by omega⟩
   have h1:trR op a b n back (g+1+1) (.l0 i out)=trR op a b n back (g+1) (.l1004 i (out.set i (ini op))):=by
    show T66 Ops.std op a b (n:Nat) (back:Nat) _ some _=_
    unfold T66 ini
    simp only [qae,qak,qag,qaa,qab,ho]
    rw [if_pos (by omega)]
    by_cases h10:op=10
    ·rw [if_pos h10,if_pos (by omega),decide_eq_true (.inl h10)]
    ·rw [if_neg h10]
     by_cases h12:op=12
     ·rw [if_pos h12,if_pos (by omega),decide_eq_true (.inr (.inl h12))]
     ·rw [if_neg h12,if_pos (by omega)]
      congr 3
      simp [h10,h12]
   have h2:trR op a b n back (g+1) (.l1004 i (out.set i (ini op)))=trR op a b n back g (.l0 ((i+1:Nat):Int) (out.set i (ini op))):=by
    show T66 Ops.std op a b (n:Nat) (back:Nat) _ some _=_
    unfold T66
    simp only [show IntKind.wrap IntKind.i64 ((i:Int)+1)=((i+1:Nat):Int) from qaf (by omega)]
   obtain ⟨g',out',e1,e2,e3,e4⟩:=tr_init t (i+1) g (by omega) (by omega) (out.set i (ini op)) (by simp [ho]) fun j hj=>by
    rw [qdx _ _ (by omega)]
    by_cases h:j=i
    ·rw [if_pos h]
    ·rw [if_neg h];exact hk j (by omega)
   exact ⟨g',out',by omega,h1.trans (h2.trans e2),e3,e4⟩
def rowOK (op:Int) (a b:Nat→Bool) (n back:Nat) (i:Nat):Bool:=
 if op=1 then true else if op=2∨op=3 then false
 else if op=4∨op=8∨op=11∨op=12 then sem1 n back op a i else sem2 n back op a b i
theorem swL_fn (g:Nat→Bool→Bool) (hg:∀ i o,i<n→stepB op (fnB a) (fnB b) i (nx n back i) o=g i (o (nx n back i))):∀ (k:Nat),k≤n→∀ (out:List Bool),out.length=n→∀ (o:Nat→Bool),(∀ i,i<n→fnB out i=o i)→back<n→∀ i,i<n→fnB (swL op a b n back k out) i=sw n back g k o i
 | 0,hk,out,ho,o,h,hb,i,hi=>h i hi
 | k+1,hk,out,ho,o,h,hb,i,hi=>by
   rw [swL,sw]
   refine swL_fn g hg k (by omega) _ (by simp [ho]) _ (fun j hj=>?_) hb i hi
   rw [qdx _ _ (by omega)]
   unfold upd1
   by_cases e:j=k
   ·rw [if_pos e,if_pos e,hg k _ (by omega),h _ (qe3 n back hb (by omega))]
   ·rw [if_neg e,if_neg e];exact h j hj
theorem swN_fn (g:Nat→Bool→Bool) (hg:∀ i o,i<n→stepB op (fnB a) (fnB b) i (nx n back i) o=g i (o (nx n back i))) (hb:back<n):∀ (k:Nat) (out:List Bool),out.length=n→∀ (o:Nat→Bool),(∀ i,i<n→fnB out i=o i)→∀ i,i<n→fnB (swN op a b n back k out) i=sws n back g k o i
 | 0,out,ho,o,h,i,hi=>h i hi
 | k+1,out,ho,o,h,i,hi=>by
   rw [swN,sws]
   exact swN_fn g hg hb k _ (by rw [qb5];exact ho) _ (swL_fn op a b n back g hg n (Nat.le_refl _) out ho o h hb) i hi
theorem sw_const (h:Nat→Bool):∀ (k:Nat) (o:Nat→Bool) (i:Nat),sw n back (fun j _=>h j) k o i=if i<k then h i else o i
 | 0,o,i=>by simp [sw]
 | k+1,o,i=>by
   rw [sw,sw_const h k]
   unfold upd1
   by_cases h1:i<k
   ·rw [if_pos h1,if_pos (by omega)]
   ·rw [if_neg h1]
    by_cases h2:i=k
    ·rw [if_pos h2,if_pos (by omega),h2]
    ·rw [if_neg h2,if_neg (by omega)]
theorem swL_id (hop:op=1∨op=2∨op=3):∀ (k:Nat),k≤n→∀ (out:List Bool),out.length=n→swL op a b n back k out=out
 | 0,hk,out,ho=>rfl
 | k+1,hk,out,ho=>by
   have hs:out.set k (stepB op (fnB a) (fnB b) k (nx n back k) (fnB out))=out:=by
    have e:stepB op (fnB a) (fnB b) k (nx n back k) (fnB out)=out.getD k (Ty.dflt ty4):=by
     unfold stepB
     rw [if_neg (by omega),if_neg (by omega),if_neg (by omega),if_neg (by omega),if_neg (by omega),if_neg (by omega),if_neg (by omega),if_neg (by omega),if_neg (by omega)]
     rfl
    rw [e]
    apply List.ext_getElem?
    intro j
    rw [List.getElem?_set]
    by_cases hj:k=j
    ·subst hj
     rw [if_pos rfl,if_pos (by omega),List.getD_eq_getElem?_getD,List.getElem?_eq_getElem (by omega)];rfl
    ·rw [if_neg hj]
   rw [swL,hs]
   exact swL_id hop k (by omega) out ho
include hb hn in
theorem truths_ok (hop:0≤opn op) (hl:lensOk op a b n):∃ out,M66 op a b (n:Nat) (back:Nat)=some out∧out.length=n∧∀ i,i<n→fnB out i=rowOK op (fnB a) (fnB b) n back i:=by
 have hcase:op=1∨op=2∨op=3∨op=4∨op=5∨op=6∨op=7∨op=8∨op=9∨op=10∨op=11∨op=12:=by
  unfold opn at hop
  split at hop
  ·omega
  ·split at hop
   ·omega
   ·split at hop
    ·omega
    ·omega
 show ∃ out,T66 Ops.std op a b (n:Nat) (back:Nat) (trR op a b n back 1000000) some none=some out∧_
 unfold T66
 have h0n:(0:Int)≤(n:Int):=by omega
 have hlim:n*1≤140737488355328:=by omega
 simp only [qak,qan,qam,qab,decide_true,h0n,hlim,cond_true]
 obtain ⟨g,out,e1,e2,e3,e4⟩:=tr_init op a b n back hn n 0 1000000 (by omega) (by omega) (List.replicate n (Ty.dflt Ty.bool)) (by simp) (fun j hj=>by omega)
 have e2':trR op a b n back 1000000 (.l0 0 (List.replicate n (Ty.dflt Ty.bool)))=trR op a b n back g (.l1 0 out):=e2
 have goal:∀ out',trR op a b n back g (.l1 0 out)=some out'→out'.length=n→(∀ i,i<n→fnB out' i=rowOK op (fnB a) (fnB b) n back i)→∃ out,trR op a b n back 1000000 (.l0 0 (List.replicate n (Ty.dflt Ty.bool)))=some out∧out.length=n∧∀ i,i<n→fnB out i=rowOK op (fnB a) (fnB b) n back i:=
  fun out' h1 h2 h3=>⟨out',e2'.trans h1,h2,h3⟩
 have const:(op≠9∧op≠10∧op≠11∧op≠12)→∀ h:Nat→Bool,(∀ i o,i<n→stepB op (fnB a) (fnB b) i (nx n back i) o=h i)→(∀ i,i<n→rowOK op (fnB a) (fnB b) n back i=h i)→∃ out,trR op a b n back 1000000 (.l0 0 (List.replicate n (Ty.dflt Ty.bool)))=some out∧out.length=n∧∀ i,i<n→fnB out i=rowOK op (fnB a) (fnB b) n back i:=fun ho h hs hr=>
  goal _ (tr_once op a b n back hb hn ho hl g (by omega) out e3) (by rw [qb5];exact e3) fun i hi=>by
   rw [swL_fn op a b n back (fun j _=>h j) hs n (Nat.le_refl _) out e3 (fnB out) (fun _ _=>rfl) hb i hi,sw_const,if_pos hi,hr i hi]
 have last:(op=9∨op=10∨op=11∨op=12)→∀ (gr:Nat→Bool→Bool) (v:Bool),ini op=v→(∀ i o,i<n→stepB op (fnB a) (fnB b) i (nx n back i) o=gr i (o (nx n back i)))→(∀ i,i<n→rowOK op (fnB a) (fnB b) n back i=sws n back gr (n+2) (fun _=>v) i)→∃ out,trR op a b n back 1000000 (.l0 0 (List.replicate n (Ty.dflt Ty.bool)))=some out∧out.length=n∧∀ i,i<n→fnB out i=rowOK op (fnB a) (fnB b) n back i:=fun ho gr v hv hs hr=>
  goal _ (tr_last op a b n back hb hn ho hl (n+2) 0 g (by omega) (by omega) out e3) (by rw [swN_len];exact e3) fun i hi=>by
   rw [swN_fn op a b n back gr hs hb (n+2) out e3 (fun _=>v) (fun j hj=>by rw [e4 j hj,hv]) i hi,hr i hi]
 rcases hcase with rfl | rfl | rfl | rfl | rfl | rfl | rfl | rfl | rfl | rfl | rfl | rfl
 ·refine goal _ (tr_once 1 a b n back hb hn (by omega) hl g (by omega) out e3) (by rw [qb5];exact e3) fun i hi=>?_
  rw [swL_id 1 a b n back (.inl rfl) n (Nat.le_refl _) out e3,e4 i hi];rfl
 ·refine goal _ (tr_once 2 a b n back hb hn (by omega) hl g (by omega) out e3) (by rw [qb5];exact e3) fun i hi=>?_
  rw [swL_id 2 a b n back (.inr (.inl rfl)) n (Nat.le_refl _) out e3,e4 i hi];rfl
 ·refine goal _ (tr_once 3 a b n back hb hn (by omega) hl g (by omega) out e3) (by rw [qb5];exact e3) fun i hi=>?_
  rw [swL_id 3 a b n back (.inr (.inr rfl)) n (Nat.le_refl _) out e3,e4 i hi];rfl
 ·exact const (by omega) (fun i=>!fnB a i) (fun _ _ _=>rfl) (fun _ _=>rfl)
 ·exact const (by omega) (fun i=>fnB a i && fnB b i) (fun _ _ _=>rfl) (fun _ _=>rfl)
 ·exact const (by omega) (fun i=>fnB a i || fnB b i) (fun _ _ _=>rfl) (fun _ _=>rfl)
 ·exact const (by omega) (fun i=>!fnB a i || fnB b i) (fun _ _ _=>rfl) (fun _ _=>rfl)
 ·exact const (by omega) (fun i=>fnB a (nx n back i)) (fun _ _ _=>rfl) (fun _ _=>rfl)
 ·exact last (by omega) (ruU (fnB a) (fnB b)) false rfl (fun _ _ _=>rfl) (fun _ _=>rfl)
 ·exact last (by omega) (ruR (fnB a) (fnB b)) true rfl (fun _ _ _=>rfl) (fun _ _=>rfl)
 ·exact last (by omega) (ruF (fnB a)) false rfl (fun _ _ _=>rfl) (fun _ _=>rfl)
 ·exact last (by omega) (ruG (fnB a)) true rfl (fun _ _ _=>rfl) (fun _ _=>rfl)
end
theorem qbv (n:Int):∃ v,M111 n=some v:=⟨_,rfl⟩
theorem qbw (b:Bool):∃ v,M112 b=some v:=by cases b<;>exact ⟨_,rfl⟩
theorem two_some (op a b:Int):∃ v,M113 op a b=some v:=by
 show ∃ v,T113 Ops.std M111 M112 op a b some=some v
 unfold T113
 simp only [qak,qaa]
 have hb:∀ n:Int,∃ v,(ob (M111 n) fun y=>some y)=some v:=fun n=>by obtain ⟨v,h⟩:=qbv n;exact ⟨v,by rw [h,ob_s]⟩
 have ht:∀ n:Bool,∃ v,(ob (M112 n) fun y=>some y)=some v:=fun n=>by obtain ⟨v,h⟩:=qbw n;exact ⟨v,by rw [h,ob_s]⟩
 have hc:∀ q x y:Bool,∃ v,(cond q (ob (M112 x) fun y=>some y) (ob (M112 y) fun y=>some y))=some v:=fun q x y=>by
  cases q
  ·exact ht y
  ·exact ht x
 repeat' (first | exact hb _ | exact ht _ | exact hc _ _ _ | split)
section
variable {vs:List Vrb} {ps:List Pcs} {ts:List Trn}
noncomputable abbrev evR (vs:List Vrb) (ps:List Pcs) (ts:List Trn) (s1 s2:List Int) (e:List Trm):=R64 M62 M109 M111 M105 M108 M112 M113 vs ps ts s1 s2 e
theorem eval_loop (s1 s2:List Int) (h1:s1.length=ps.length) (h2:s2.length=vs.length) (e:List Trm) (he:e.length≤30) (hk:∀ x∈e,knE vs ps ts x):∀ (t i n:Nat) (st:List Int),i+t=e.length→t<n→st.length≤i→∃ v,evR vs ps ts s1 s2 e n (.l0 i st)=some v
 | t,i,0,st,hi,hn,hs=>by omega
 | 0,i,n+1,st,hi,hn,hs=>by
   show ∃ v,T64 Ops.std _ _ _ _ _ _ _ vs ps ts s1 s2 e _ some _=some v
   unfold T64
   simp only [qae,qak,qag,qaa]
   rw [if_neg (by omega)]
   by_cases h0:((st.length:Nat):Int)=0
   ·rw [if_pos h0];exact ⟨_,rfl⟩
   ·rw [if_neg h0,if_pos (by omega)];exact ⟨_,rfl⟩
 | t+1,i,n+1,st,hi,hn,hs=>by
   have ih:=fun st=>eval_loop s1 s2 h1 h2 e he hk t (i+1) n st (by omega) (by omega)
   obtain ⟨x,hx⟩:∃ x,e.getD i (Ty.dflt ty150)=x:=⟨_,rfl⟩
   have hm:x∈e:=by rw [←hx];exact qau (by omega) _
   obtain ⟨k2,k3⟩:=hk x hm
   show ∃ v,T64 Ops.std _ _ _ _ _ _ _ vs ps ts s1 s2 e _ some _=some v
   unfold T64
   simp only [qae,qak,qag,qam,qaa,qab,hx,mt,List.length_cons,List.length_nil,show IntKind.wrap IntKind.i64 ((i:Int)+1)=((i+1:Nat):Int) from qaf (by omega)]
   rw [if_pos (by omega),if_pos (by omega)]
   by_cases o1:x.1=1
   ·rw [if_pos o1,if_pos (by omega)];exact ih _ (by simp;omega)
   rw [if_neg o1]
   by_cases o2:x.1=2
   ·obtain ⟨k,hk1,hk2⟩:=k2 o2
    rw [if_pos o2,hk2,ob_s,if_pos (by omega)]
    obtain ⟨y,hy⟩:=qbv (s2.getD (Int.toNat (k:Int)) (Ty.dflt ty3))
    rw [hy,ob_s,if_pos (by omega)];exact ih _ (by simp;omega)
   rw [if_neg o2]
   by_cases o3:x.1=3
   ·obtain ⟨q,r,q1,q2,q3⟩:=k3 o3
    rw [if_pos o3,q2,ob_s,if_pos (by omega),q3,ob_s]
    obtain ⟨y,hy⟩:=qbw (decide (s1.getD (Int.toNat (q:Int)) (Ty.dflt ty3)=r))
    rw [hy,ob_s,if_pos (by omega)];exact ih _ (by simp;omega)
   rw [if_neg o3]
   by_cases o4:x.1=4
   ·rw [if_pos o4]
    by_cases hl:((st.length:Nat):Int)<1
    ·rw [if_pos hl];exact ⟨_,rfl⟩
    ·have hw1:IntKind.wrap IntKind.i64 ((st.length:Int)-1)=((st.length-1:Nat):Int):=by rw [wrap64 (by omega) (by omega)];omega
     simp only [hw1,qab]
     obtain ⟨y,hy⟩:=qbw (decide (st.getD (st.length-1) (Ty.dflt ty3)=0))
     rw [if_neg hl,if_pos trivial,if_pos (by omega),if_pos (by omega),hy,ob_s,if_pos (by omega),if_pos (by simp;omega)]
     exact ih _ (by simp;omega)
   rw [if_neg o4]
   by_cases o5:x.1=5
   ·rw [if_pos o5]
    by_cases hl:((st.length:Nat):Int)<1
    ·rw [if_pos hl];exact ⟨_,rfl⟩
    ·have hw1:IntKind.wrap IntKind.i64 ((st.length:Int)-1)=((st.length-1:Nat):Int):=by rw [wrap64 (by omega) (by omega)];omega
     simp only [hw1,qab]
     obtain ⟨y,hy⟩:=qbv (IntKind.wrap IntKind.i64 (0-st.getD (st.length-1) (Ty.dflt ty3)))
     rw [if_neg hl,if_pos trivial,if_pos (by omega),if_pos (by omega),hy,ob_s,if_pos (by omega),if_pos (by simp;omega)]
     exact ih _ (by simp;omega)
   rw [if_neg o5]
   by_cases hl:((st.length:Nat):Int)<2
   ·rw [if_pos hl];exact ⟨_,rfl⟩
   ·have hw1:IntKind.wrap IntKind.i64 ((st.length:Int)-1)=((st.length-1:Nat):Int):=by rw [wrap64 (by omega) (by omega)];omega
    have hw2:IntKind.wrap IntKind.i64 ((st.length:Int)-2)=((st.length-2:Nat):Int):=by rw [wrap64 (by omega) (by omega)];omega
    simp only [hw1,hw2,qab]
    obtain ⟨y,hy⟩:=two_some x.1 (st.getD (st.length-2) (Ty.dflt ty3)) (st.getD (st.length-1) (Ty.dflt ty3))
    rw [if_neg hl,if_pos trivial,if_pos (by omega),if_pos (by omega),if_pos (by omega),hy,ob_s,if_pos (by omega),if_pos (by simp;omega)]
    exact ih _ (by simp;omega)
theorem eval_ok (hg:smallG vs ps) (s1 s2:List Int) (e:List Trm) (he:shortE e):∃ v,M64 vs ps ts s1 s2 e=some v:=by
 show ∃ v,T64 Ops.std M62 M109 M111 M105 M108 M112 M113 vs ps ts s1 s2 e (evR vs ps ts s1 s2 e 1000000) some none=some v
 unfold T64
 obtain ⟨b,b1,b2⟩:=qbn ts hg e he
 rw [b1,ob_s]
 cases hb:b with
 | false=>exact ⟨_,rfl⟩
 | true=>
 simp only [Bool.not_true,cond_false,qak,qas,qaa]
 by_cases c1:((s1.length:Nat):Int)=((ps.length:Nat):Int)
 ·rw [if_neg (fun h=>h c1)]
  by_cases c2:((s2.length:Nat):Int)=((vs.length:Nat):Int)
  ·rw [if_neg (fun h=>h c2)]
   exact eval_loop s1 s2 (by omega) (by omega) e he.1 (b2 hb).2 e.length 0 1000000 [] (by omega) (by have:=he.1;omega) (by simp)
  ·rw [if_pos c2];exact ⟨_,rfl⟩
 ·rw [if_pos c1];exact ⟨_,rfl⟩
abbrev Stt:=List Int×List Int
structure goodSt (vs:List Vrb) (ps:List Pcs) (s:Stt):Prop where
 l1:s.1.length=ps.length
 l2:s.2.length=vs.length
 p:∀ i,i<ps.length→0≤s.1.getD i (Ty.dflt ty3)∧s.1.getD i (Ty.dflt ty3)<((ps.getD i (Ty.dflt ty98)).2.length:Int)
 v:∀ i,i<vs.length→(vs.getD i (Ty.dflt ty94)).2.1≤s.2.getD i (Ty.dflt ty3)∧s.2.getD i (Ty.dflt ty3)≤(vs.getD i (Ty.dflt ty94)).2.2.1
theorem getD_app {α:Type} {l:List α} {x d:α} {j:Nat}:(l++[x]).getD j d=if j<l.length then l.getD j d else if j=l.length then x else d:=by
 simp only [List.getD_eq_getElem?_getD]
 by_cases h:j<l.length
 ·rw [if_pos h,List.getElem?_append_left h]
 ·rw [if_neg h,List.getElem?_append_right (by omega)]
  by_cases h2:j=l.length
  ·rw [if_pos h2,h2];simp
  ·rw [if_neg h2,List.getElem?_eq_none (by simp;omega)];rfl
noncomputable abbrev stR (vs:List Vrb) (ps:List Pcs) (ts:List Trn) (x:Int):=R30 M29 vs ps ts x
theorem st_l1 (hM:goodM vs ps) (x:Int) (L:List Int) (h1:L.length=ps.length) (hp:∀ i,i<ps.length→0≤L.getD i (Ty.dflt ty3)∧L.getD i (Ty.dflt ty3)<((ps.getD i (Ty.dflt ty98)).2.length:Int)) :
  ∀ (t i n:Nat) (V:List Int),i+t=vs.length→t<n→V.length=i→(∀ j,j<i→(vs.getD j (Ty.dflt ty94)).2.1≤V.getD j (Ty.dflt ty3)∧V.getD j (Ty.dflt ty3)≤(vs.getD j (Ty.dflt ty94)).2.2.1)→∃ s,stR vs ps ts x n (.l1 i L V)=some s∧goodSt vs ps s
 | t,i,0,V,hi,hn,hv,hk=>by omega
 | 0,i,n+1,V,hi,hn,hv,hk=>by
   show ∃ s,T30 Ops.std _ vs ps ts x _ some _=some s∧_
   unfold T30
   simp only [qae,qaa]
   rw [if_neg (by omega)]
   exact ⟨_,rfl,h1,by show V.length=_;omega,hp,fun j hj=>hk j (by omega)⟩
 | t+1,i,n+1,V,hi,hn,hv,hk=>by
   have hvl:=hM.vl
   have ih:=fun V=>st_l1 hM x L h1 hp t (i+1) n V (by omega) (by omega)
   obtain ⟨y,hy⟩:∃ y,vs.getD i (Ty.dflt ty94)=y:=⟨_,rfl⟩
   have ho:okVar y:=by rw [←hy];exact hM.v _ (qau (by omega) _)
   obtain ⟨o1,o2,o3,o4⟩:=ho
   show ∃ s,T30 Ops.std _ vs ps ts x _ some _=some s∧_
   unfold T30
   have hw:IntKind.wrap IntKind.i64 (3+IntKind.wrap IntKind.i64 (4*(i:Int)))=((4*i+3:Nat):Int):=by rw [wrap64 (n:=4*(i:Int)) (by omega) (by omega),wrap64 (by omega) (by omega)];omega
   have hN:IntKind.wrap IntKind.i64 (IntKind.wrap IntKind.i64 (y.2.2.1-y.2.1)+1)=(((y.2.2.1-y.2.1+1).toNat:Nat):Int):=by rw [wrap64 (n:=y.2.2.1-y.2.1) (by omega) (by omega),wrap64 (by omega) (by omega)];omega
   simp only [qae,qak,qag,qam,qaa,qab,hy,hw,hN,mt,List.length_cons,List.length_nil,show IntKind.wrap IntKind.i64 ((i:Int)+1)=((i+1:Nat):Int) from qaf (by omega)]
   obtain ⟨k,k1,k2⟩:=pickN (IntKind.wrap IntKind.i64 (Int.tdiv x ((4*i+3:Nat):Int))) (y.2.2.1-y.2.1+1).toNat (by omega) (by omega)
   rw [if_pos (by omega),if_pos (by omega),if_neg (by omega),if_pos (by omega),if_pos (by omega),k2,ob_s,if_pos (by omega),wrap64 (n:=y.2.1+(k:Int)) (by omega) (by omega)]
   refine ih _ (by simp;omega) fun j hj=>?_
   rw [getD_app]
   by_cases h:j<V.length
   ·rw [if_pos h];exact hk j (by omega)
   ·rw [if_neg h,if_pos (by omega),show j=i by omega,hy];exact ⟨by omega,by omega⟩
theorem st_l0 (hM:goodM vs ps) (x:Int):∀ (t i n:Nat) (L:List Int),i+t=ps.length→t+10<n→L.length=i→(∀ j,j<i→0≤L.getD j (Ty.dflt ty3)∧L.getD j (Ty.dflt ty3)<((ps.getD j (Ty.dflt ty98)).2.length:Int))→∃ s,stR vs ps ts x n (.l0 i L)=some s∧goodSt vs ps s
 | t,i,0,L,hi,hn,hv,hk=>by omega
 | 0,i,n+1,L,hi,hn,hv,hk=>by
   have hvl:=hM.vl
   show ∃ s,T30 Ops.std _ vs ps ts x _ some _=some s∧_
   unfold T30
   simp only [qae,qaa]
   rw [if_neg (by omega)]
   exact st_l1 hM x L (by omega) (fun j hj=>hk j (by omega)) vs.length 0 n [] (by omega) (by omega) rfl (fun j hj=>by omega)
 | t+1,i,n+1,L,hi,hn,hv,hk=>by
   have hpl:=hM.pl
   have ih:=fun L=>st_l0 hM x t (i+1) n L (by omega) (by omega)
   obtain ⟨y,hy⟩:∃ y,ps.getD i (Ty.dflt ty98)=y:=⟨_,rfl⟩
   have ho:1≤y.2.length∧y.2.length≤6:=by rw [←hy];exact hM.p _ (qau (by omega) _)
   show ∃ s,T30 Ops.std _ vs ps ts x _ some _=some s∧_
   unfold T30
   have hw:IntKind.wrap IntKind.i64 (1+(i:Int))=((i+1:Nat):Int):=by rw [wrap64 (by omega) (by omega)];omega
   simp only [qae,qak,qag,qam,qaa,qab,hy,hw,mt,List.length_cons,List.length_nil,show IntKind.wrap IntKind.i64 ((i:Int)+1)=((i+1:Nat):Int) from qaf (by omega)]
   obtain ⟨k,k1,k2⟩:=pickN (IntKind.wrap IntKind.i64 (Int.tdiv x ((i+1:Nat):Int))) y.2.length (by omega) (by omega)
   rw [if_pos (by omega),if_neg (by omega),if_pos (by omega),k2,ob_s,if_pos (by omega)]
   refine ih _ (by simp;omega) fun j hj=>?_
   rw [getD_app]
   by_cases h:j<L.length
   ·rw [if_pos h];exact hk j (by omega)
   ·rw [if_neg h,if_pos (by omega),show j=i by omega,hy];exact ⟨by omega,by omega⟩
theorem State_ok (hM:goodM vs ps) (x:Int):∃ s,M30 vs ps ts x=some s∧goodSt vs ps s:=by
 have hpl:=hM.pl
 show ∃ s,T30 Ops.std M29 vs ps ts x (stR vs ps ts x 1000000) some none=some s∧_
 unfold T30
 exact st_l0 hM x ps.length 0 1000000 [] (by omega) (by omega) rfl (fun j hj=>by omega)
end
abbrev Stp:=Stt×List Int
section
variable {vs:List Vrb} {ps:List Pcs} {ts:List Trn}
noncomputable abbrev wdR (vs:List Vrb) (ps:List Pcs) (ts:List Trn) (a b:List Int):=R20 M30 vs ps ts a b
theorem mem_app1 {P:Stp→Prop} {l:List Stp} {x:Stp} (h:∀ y∈l,P y) (hx:P x):∀ y∈l++[x],P y:=fun y hy=>by
 rcases List.mem_append.mp hy with h' | h'
 ·exact h y h'
 ·rw [List.mem_singleton.mp h'];exact hx
def wordOk (vs:List Vrb) (ps:List Pcs) (w:List Stp×List Stp):Prop:=w.1.length≤6∧1≤w.2.length∧w.2.length≤6∧(∀ x∈w.1,goodSt vs ps x.1)∧∀ x∈w.2,goodSt vs ps x.1
theorem wd_end (hM:goodM vs ps) (st cy:List Stp) (h1:st.length≤6) (h2:cy.length≤6) (k1:∀ x∈st,goodSt vs ps x.1) (k2:∀ x∈cy,goodSt vs ps x.1) (k:(List Stp×List Stp)→Option (List Stp×List Stp)) (hk:k=some) :
  ∃ w,(if ((cy.length:Nat):Int)=0 then ob (M30 vs ps ts 0) (fun y=>k (st,[((y.1,y.2),[])])) else k (st,cy))=some w∧wordOk vs ps w:=by
 subst hk
 by_cases h:((cy.length:Nat):Int)=0
 ·obtain ⟨s,s1,s2⟩:=State_ok (ts:=ts) hM 0
  rw [if_pos h,s1,ob_s]
  exact ⟨_,rfl,h1,by simp,by simp,k1,fun x hx=>by rw [List.mem_singleton.mp hx];exact s2⟩
 ·rw [if_neg h]
  exact ⟨_,rfl,h1,by show 1≤cy.length;omega,h2,k1,k2⟩
theorem wd_l1 (hM:goodM vs ps) (a b:List Int) (st:List Stp) (h1:st.length≤6) (k1:∀ x∈st,goodSt vs ps x.1):∀ (t i n:Nat) (cy:List Stp),i+t=6→t<n→cy.length=i→(∀ x∈cy,goodSt vs ps x.1)→∃ w,wdR vs ps ts a b n (.l1 i st cy)=some w∧wordOk vs ps w
 | t,i,0,cy,hi,hn,hl,hk=>by omega
 | t,i,n+1,cy,hi,hn,hl,hk=>by
   have he:=wd_end (ts:=ts) hM st cy h1 (by omega) k1 hk some rfl
   show ∃ w,T20 Ops.std _ vs ps ts a b _ some _=some w∧_
   unfold T20
   simp only [qae,qak,qag,qam,qaa,qab,mt,List.length_cons,List.length_nil]
   by_cases c1:(i:Int)<((b.length:Nat):Int)
   ·rw [if_pos c1]
    by_cases c2:(i:Int)<6
    ·obtain ⟨t,rfl⟩:∃ t',t=t'+1:=⟨t-1,by omega⟩
     obtain ⟨s,s1,s2⟩:=State_ok (ts:=ts) hM (b.getD i (Ty.dflt ty3))
     rw [if_pos c2,if_pos (by omega),s1,ob_s,if_pos (by omega),show IntKind.wrap IntKind.i64 ((i:Int)+1)=((i+1:Nat):Int) from qaf (by omega)]
     exact wd_l1 hM a b st h1 k1 t (i+1) n _ (by omega) (by omega) (by simp [hl]) (mem_app1 hk s2)
    ·rw [if_neg c2];exact he
   ·rw [if_neg c1];exact he
theorem wd_l0 (hM:goodM vs ps) (a b:List Int):∀ (t i n:Nat) (st:List Stp),i+t=6→t+10<n→st.length=i→(∀ x∈st,goodSt vs ps x.1)→∃ w,wdR vs ps ts a b n (.l0 i st)=some w∧wordOk vs ps w
 | t,i,0,cy,hi,hn,hl,hk=>by omega
 | t,i,n+1,st,hi,hn,hl,hk=>by
   have he:=wd_l1 (ts:=ts) hM a b st (by omega) hk 6 0 n [] (by omega) (by omega) rfl (fun x hx=>by cases hx)
   show ∃ w,T20 Ops.std _ vs ps ts a b _ some _=some w∧_
   unfold T20
   simp only [qae,qak,qag,qam,qaa,qab,mt,List.length_cons,List.length_nil]
   by_cases c1:(i:Int)<((a.length:Nat):Int)
   ·rw [if_pos c1]
    by_cases c2:(i:Int)<6
    ·obtain ⟨t,rfl⟩:∃ t',t=t'+1:=⟨t-1,by omega⟩
     obtain ⟨s,s1,s2⟩:=State_ok (ts:=ts) hM (a.getD i (Ty.dflt ty3))
     rw [if_pos c2,if_pos (by omega),s1,ob_s,if_pos (by omega),show IntKind.wrap IntKind.i64 ((i:Int)+1)=((i+1:Nat):Int) from qaf (by omega)]
     exact wd_l0 hM a b t (i+1) n _ (by omega) (by omega) (by simp [hl]) (mem_app1 hk s2)
    ·rw [if_neg c2];exact he
   ·rw [if_neg c1];exact he
theorem Word_ok (hM:goodM vs ps) (a b:List Int):∃ w,M20 vs ps ts a b=some w∧wordOk vs ps w:=by
 show ∃ w,T20 Ops.std M30 vs ps ts a b (wdR vs ps ts a b 1000000) some none=some w∧_
 unfold T20
 exact wd_l0 hM a b 6 0 1000000 [] (by omega) (by omega) rfl (fun x hx=>by cases hx)
noncomputable abbrev ftR (vs:List Vrb) (ps:List Pcs) (ts:List Trn) (s1 s2:List Int):=R139 vs ps ts s1 s2
theorem ft_l1 (hv:vs.length≤100000) {s:Stt} (hs:goodSt vs ps s):∀ (t i n:Nat),i+t=vs.length→t<n→ftR vs ps ts s.1 s.2 n (.l1 i)=some true
 | t,i,0,hi,hn=>by omega
 | 0,i,n+1,hi,hn=>by
   have h2:=hs.l2
   show T139 Ops.std vs ps ts s.1 s.2 _ some _=_
   unfold T139
   simp only [qae,qaa]
   rw [if_neg (by omega)]
 | t+1,i,n+1,hi,hn=>by
   have h2:=hs.l2
   obtain ⟨v1,v2⟩:=hs.v i (by omega)
   show T139 Ops.std vs ps ts s.1 s.2 _ some _=_
   unfold T139
   simp only [qae,qan,qag,qaa,qab]
   rw [if_pos (by omega),if_pos (by omega),if_pos (by omega),if_neg (by omega),if_pos (by omega),if_pos (by omega),if_neg (by omega),show IntKind.wrap IntKind.i64 ((i:Int)+1)=((i+1:Nat):Int) from qaf (by omega)]
   exact ft_l1 hv hs t (i+1) n (by omega) (by omega)
theorem ft_l0 (hv:vs.length≤100000) (hp:ps.length≤100000) {s:Stt} (hs:goodSt vs ps s):∀ (t i n:Nat),i+t=ps.length→t+100010<n→ftR vs ps ts s.1 s.2 n (.l0 i)=some true
 | t,i,0,hi,hn=>by omega
 | 0,i,n+1,hi,hn=>by
   have h1:=hs.l1
   show T139 Ops.std vs ps ts s.1 s.2 _ some _=_
   unfold T139
   simp only [qae,qaa]
   rw [if_neg (by omega)]
   exact ft_l1 hv hs vs.length 0 n (by omega) (by omega)
 | t+1,i,n+1,hi,hn=>by
   have h1:=hs.l1
   obtain ⟨v1,v2⟩:=hs.p i (by omega)
   show T139 Ops.std vs ps ts s.1 s.2 _ some _=_
   unfold T139
   simp only [qae,qan,qag,qaa,qab]
   rw [if_pos (by omega),if_pos (by omega),if_neg (by omega),if_pos (by omega),if_pos (by omega),if_neg (by omega),show IntKind.wrap IntKind.i64 ((i:Int)+1)=((i+1:Nat):Int) from qaf (by omega)]
   exact ft_l0 hv hp hs t (i+1) n (by omega) (by omega)
theorem fits_ok (hM:goodM vs ps) {s:Stt} (hs:goodSt vs ps s):M139 vs ps ts s.1 s.2=some true:=by
 have hpl:=hM.pl
 have hvl:=hM.vl
 have h1:=hs.l1
 have h2:=hs.l2
 show T139 Ops.std vs ps ts s.1 s.2 (ftR vs ps ts s.1 s.2 1000000) some none=_
 unfold T139
 simp only [qak,qas,qaa]
 rw [if_neg (fun h=>h (by omega)),if_neg (fun h=>h (by omega))]
 exact ft_l0 (by omega) (by omega) hs ps.length 0 1000000 (by omega) (by omega)
theorem RightState_ok (hR:M18 vs ps ts=some true) (hM:goodM vs ps) {s:Stt} (hs:goodSt vs ps s):M81 vs ps ts s.1 s.2=some true:=by
 show T81 Ops.std M18 M139 vs ps ts s.1 s.2 some=_
 unfold T81
 rw [hR,ob_s]
 simp only [Bool.not_true,cond_false]
 rw [fits_ok hM hs,ob_s]
theorem at_ok (st cy:List Stp) (i:Nat) (hi:i<st.length+cy.length) (h1:st.length≤1000000) (h2:cy.length≤1000000):M65 st cy (i:Nat)=some (((st++cy).getD i (Ty.dflt ty68)).1.1,((st++cy).getD i (Ty.dflt ty68)).1.2,((st++cy).getD i (Ty.dflt ty68)).2):=by
 show T65 Ops.std st cy (i:Nat) some=_
 unfold T65
 simp only [qae,qag,qaa,qab]
 by_cases h:i<st.length
 ·rw [if_pos (by omega),if_pos (by omega)]
  simp only [List.getD_eq_getElem?_getD,List.getElem?_append_left h]
 ·have hw:IntKind.wrap IntKind.i64 ((i:Int)-(st.length:Int))=((i-st.length:Nat):Int):=by
   rw [wrap64 (by omega) (by omega)];omega
  rw [if_neg (by omega),hw,if_pos (by omega)]
  simp only [qab,List.getD_eq_getElem?_getD,List.getElem?_append_right (Nat.le_of_not_lt h)]
end
section
variable {n back:Nat} (hb:back<n)
def eqB (n:Nat) (o p:Nat→Bool):Prop:=∀ i,i<n→o i=p i
include hb in
theorem lf_congr {g g':Nat→Bool→Bool} (hg:mono g) (hg':mono g') (h:∀ i x,i<n→g i x=g' i x):eqB n (lf n back g) (lf n back g'):=by
 refine leB_eq (qda hg hb _ fun i hi e=>?_) (qda hg' hb _ fun i hi e=>?_)
 ·rw [lf_fix hg' hb i hi,←h _ _ hi];exact e
 ·rw [lf_fix hg hb i hi,h _ _ hi];exact e
include hb in
theorem gf_congr {g g':Nat→Bool→Bool} (hg:mono g) (hg':mono g') (h:∀ i x,i<n→g i x=g' i x):eqB n (gf n back g) (gf n back g'):=by
 refine leB_eq (qe4 hg' hb _ fun i hi e=>?_) (qe4 hg hb _ fun i hi e=>?_)
 ·rw [gf_fix hg hb i hi] at e;rw [←h _ _ hi];exact e
 ·rw [gf_fix hg' hb i hi] at e;rw [h _ _ hi];exact e
theorem ruF_mono (a:Nat→Bool):mono (ruF a):=fun i h=>by unfold ruF at *;simp at h;simp [h]
theorem ruG_mono (a:Nat→Bool):mono (ruG a):=fun i h=>by unfold ruG at *;simp at h
include hb in
theorem sem2_congr (k:Int) {a a' b b':Nat→Bool} (ha:eqB n a a') (hb':eqB n b b'):eqB n (sem2 n back k a b) (sem2 n back k a' b'):=by
 unfold sem2
 split
 ·intro i hi;simp only;rw [ha i hi,hb' i hi]
 ·split
  ·intro i hi;simp only;rw [ha i hi,hb' i hi]
  ·split
   ·intro i hi;simp only;rw [ha i hi,hb' i hi]
   ·split
    ·exact lf_congr hb (qbm _ _) (qbm _ _) fun i x hi=>by unfold ruU;rw [ha i hi,hb' i hi]
    ·exact gf_congr hb (qb4 _ _) (qb4 _ _) fun i x hi=>by unfold ruR;rw [ha i hi,hb' i hi]
include hb in
theorem sem1_congr (k:Int) {a a':Nat→Bool} (ha:eqB n a a'):eqB n (sem1 n back k a) (sem1 n back k a'):=by
 unfold sem1
 split
 ·intro i hi;simp only;rw [ha i hi]
 ·split
  ·intro i hi;exact ha _ (qe3 n back hb hi)
  ·split
   ·exact lf_congr hb (ruF_mono _) (ruF_mono _) fun i x hi=>by unfold ruF;rw [ha i hi]
   ·exact gf_congr hb (ruG_mono _) (ruG_mono _) fun i x hi=>by unfold ruG;rw [ha i hi]
variable (V:List Trm→Nat→Bool)
end
def rowL (n:Nat) (o:Nat→Bool):List Bool:=(List.range n).map o
theorem qa7 (n:Nat) (o:Nat→Bool):(rowL n o).length=n:=by simp [rowL]
theorem qbp (n:Nat) (o:Nat→Bool) (i:Nat) (hi:i<n):fnB (rowL n o) i=o i:=by
 unfold fnB rowL
 rw [List.getD_eq_getElem?_getD,List.getElem?_map,List.getElem?_range hi];rfl
theorem qe7 {n:Nat} {o:Nat→Bool} {l:List Bool} (hl:l.length=n) (h:∀ i,i<n→fnB l i=o i):l=rowL n o:=by
 apply List.ext_getElem?
 intro i
 by_cases hi:i<n
 ·have h1:=h i hi
  have h2:=qbp n o i hi
  unfold fnB at h1 h2
  have hr:i<(rowL n o).length:=by rw [qa7];exact hi
  rw [List.getD_eq_getElem?_getD,List.getElem?_eq_getElem (by omega)] at h1
  rw [List.getD_eq_getElem?_getD,List.getElem?_eq_getElem hr] at h2
  rw [List.getElem?_eq_getElem (by omega),List.getElem?_eq_getElem hr]
  simp only [Option.getD_some] at h1 h2
  rw [h1,h2]
 ·rw [List.getElem?_eq_none (by omega),List.getElem?_eq_none (by rw [qa7];omega)]
theorem qax {n:Nat} {o p:Nat→Bool} (h:∀ i,i<n→o i=p i):rowL n o=rowL n p:=qe7 (qa7 n o) fun i hi=>by rw [qbp n o i hi,h i hi]
theorem qdy {op:Int} {a b:List Bool} {n back:Nat} (hb:back<n) (hn:n≤100) (hop:0≤opn op) (hl:lensOk op a b n) {o:Nat→Bool} (h:∀ i,i<n→rowOK op (fnB a) (fnB b) n back i=o i):M66 op a b (n:Nat) (back:Nat)=some (rowL n o):=by
 obtain ⟨out,h1,h2,h3⟩:=truths_ok op a b n back hb hn hop hl
 rw [h1,qe7 h2 fun i hi=>(h3 i hi).trans (h i hi)]
theorem post_back {A:Type} (val:Fm Trm→A) (d:A) {E:List Trm→Bool} {f:List Prt} {K:List (List Int)} (Ok:Fm Trm→Prop) (hun':∀ p a,Ok (.un p a)→Ok a) (hbi':∀ p a c,Ok (.bi p a c)→Ok a∧Ok c) (P:Nat→List A→Prop)
  (hnul:∀ i p done,(Fm.nul p:Fm Trm).wf E→Ok (.nul p)→i<f.length→i<K.length→done.length=i→f.getD i (Ty.dflt ty66)=p→K.getD i (Ty.dflt ty22)=[]→P (i+1) (done++[val (.nul p)])→P i done)
  (hun:∀ i p a (j:Nat) done,(Fm.un p a).wf E→Ok (.un p a)→i<f.length→i<K.length→done.length=i→f.getD i (Ty.dflt ty66)=p→K.getD i (Ty.dflt ty22)=[(j:Int)]→j<i→done.getD j d=val a→P (i+1) (done++[val (.un p a)])→P i done)
  (hbi:∀ i p a c (j k:Nat) done,(Fm.bi p a c).wf E→Ok (.bi p a c)→i<f.length→i<K.length→done.length=i→f.getD i (Ty.dflt ty66)=p→K.getD i (Ty.dflt ty22)=[(j:Int),(k:Int)]→j<i→k<i→done.getD j d=val a→done.getD k d=val c→P (i+1) (done++[val (.bi p a c)])→P i done) :
  ∀ (t:Fm Trm),t.wf E→Ok t→∀ (b:Nat),At f K t b→∀ (done:List A),done.length=b→P (b+t.size) (done++t.post val)→P b done:=by
 intro t
 induction t with
 | nul p=>
   intro ht hok b hat done hd hP
   have hr:=hat.root (Ty.dflt ty66)
   have hk:=hat.last (Ty.dflt ty22)
   have hlen:=hat.len
   simp only [Fm.size,Fm.root,Fm.last,Nat.add_sub_cancel,Fm.post] at hr hk hlen hP ⊢
   exact hnul b p done ht hok (by omega) (by omega) hd hr hk hP
 | un p a ih=>
   intro ht hok b hat done hd hP
   have hr:=hat.root (Ty.dflt ty66)
   have hk:=hat.last (Ty.dflt ty22)
   have hlen:=hat.len
   have hsa:=a.size_pos
   have hi:b+(Fm.un p a).size-1=b+a.size:=by simp only [Fm.size];omega
   rw [hi] at hr hk
   simp only [Fm.size,Fm.root,Fm.last,Fm.post] at hr hk hlen hP ⊢
   have hg:=qc8 val d a done []
   rw [List.append_nil,hd] at hg
   refine ih ht.2.2 (hun' p a hok) b hat.un done hd ?_
   refine hun (b+a.size) p a (b+a.size-1) (done++a.post val) ht hok (by omega) (by omega) (by simp [qbl,hd]) hr hk (by omega) hg ?_
   rw [List.append_assoc,show b+a.size+1=b+(a.size+1) by omega]
   exact hP
 | bi p a c iha ihc=>
   intro ht hok b hat done hd hP
   have hr:=hat.root (Ty.dflt ty66)
   have hk:=hat.last (Ty.dflt ty22)
   have hlen:=hat.len
   have hsa:=a.size_pos
   have hsc:=c.size_pos
   have hi:b+(Fm.bi p a c).size-1=b+a.size+c.size:=by simp only [Fm.size];omega
   rw [hi] at hr hk
   simp only [Fm.size,Fm.root,Fm.last,Fm.post] at hr hk hlen hP ⊢
   obtain ⟨oka,okc⟩:=hbi' p a c hok
   have hg:=qc8 val d a done (c.post val)
   rw [hd] at hg
   have hg2:=qc8 val d c (done++a.post val) []
   rw [List.append_nil,show (done++a.post val).length=b+a.size by simp [qbl,hd]] at hg2
   refine iha ht.2.2.1 oka b hat.bi1 done hd ?_
   refine ihc ht.2.2.2 okc (b+a.size) hat.bi2 (done++a.post val) (by simp [qbl,hd]) ?_
   refine hbi (b+a.size+c.size) p a c (b+a.size-1) (b+a.size+c.size-1) (done++a.post val++c.post val) ht hok (by omega) (by omega) (by simp [qbl,hd];omega) hr hk (by omega) (by omega) hg hg2 ?_
   rw [show done++a.post val++c.post val++[val (Fm.bi p a c)]=done++(a.post val++c.post val++[val (Fm.bi p a c)]) by simp,show b+a.size+c.size+1=b+(a.size+c.size+1) by omega]
   exact hP
section
variable (vs:List Vrb) (ps:List Pcs) (ts:List Trn)
noncomputable def knB (e:List Trm):Bool:=(M62 vs ps ts e).getD false
def atmOk (f:List Prt):Prop:=∀ p∈f,p.1=3→shortE p.2
noncomputable def knA (f:List Prt):Bool:=f.all fun p=>if p.1=3 then knB vs ps ts p.2 else true
noncomputable abbrev k3R (f:List Prt):=R19 M62 M63 vs ps ts f
variable {vs ps}
theorem qd9 (hg:smallG vs ps) (f:List Prt) (hf:f.length≤60) (ha:atmOk f) (hr:M63 f=some true):∀ (t i n:Nat),i+t=f.length→t<n→k3R vs ps ts f n (.l0 i)=some (knA vs ps ts (f.drop i))
 | t,i,0,hi,hn=>by omega
 | 0,i,n+1,hi,hn=>by
   show T19 Ops.std _ _ vs ps ts f _ some _=_
   unfold T19
   simp only [qae,qaa]
   rw [if_neg (by omega),List.drop_eq_nil_of_le (by omega),hr]
   rfl
 | t+1,i,n+1,hi,hn=>by
   have hlt:i<f.length:=by omega
   have ih:=qd9 hg f hf ha hr t (i+1) n (by omega) (by omega)
   have hm:f.getD i (Ty.dflt ty66)∈f:=qau hlt _
   show T19 Ops.std _ _ vs ps ts f _ some _=_
   unfold T19
   rw [qaq (Ty.dflt ty66) hlt]
   simp only [qae,qak,qag,qaa,qab,show IntKind.wrap IntKind.i64 ((i:Int)+1)=((i+1:Nat):Int) from qaf (by omega)]
   generalize f.getD i (Ty.dflt ty66)=p at hm ⊢
   unfold knA at ih ⊢
   rw [List.all_cons,if_pos (by omega),if_pos (by omega)]
   by_cases h3:p.1=3
   ·obtain ⟨b,b1,b2⟩:=qbn ts hg p.2 (ha p hm h3)
    have hb:knB vs ps ts p.2=b:=by unfold knB;rw [b1];rfl
    rw [if_pos h3,if_pos h3,if_pos (by omega),b1,ob_s,hb]
    cases b with
    | false=>rfl
    | true=>simp only [Bool.not_true,cond_false,Bool.true_and];exact ih
   ·rw [if_neg h3,if_neg h3,Bool.true_and]
    exact ih
theorem qfy (hg:smallG vs ps) (f:List Prt) (hf:f.length≤60) (ha:atmOk f) (hr:M63 f=some true):M19 vs ps ts f=some (knA vs ps ts f):=by
 show T19 Ops.std M62 M63 vs ps ts f (k3R vs ps ts f 1000000) some none=_
 unfold T19
 exact qd9 ts hg f hf ha hr f.length 0 1000000 (by omega) (by omega)
theorem hz1 (k:Int):([k]:List Int).getD (Int.toNat 0) (Ty.dflt (Ty.int IntKind.i64))=k:=rfl
theorem hz20 (k l:Int):([k,l]:List Int).getD (Int.toNat 0) (Ty.dflt (Ty.int IntKind.i64))=k:=rfl
theorem hz21 (k l:Int):([k,l]:List Int).getD (Int.toNat 1) (Ty.dflt (Ty.int IntKind.i64))=l:=rfl
variable (vs ps) in
noncomputable def valE (w:List Stp) (e:List Trm) (i:Nat):Bool:=!decide ((M64 vs ps ts (w.getD i (Ty.dflt ty68)).1.1 (w.getD i (Ty.dflt ty68)).1.2 e).getD 0=0)
variable (vs ps) in
noncomputable abbrev alR (f:List Prt) (st cy:List Stp):=R21 M19 M42 M37 M65 M64 M66 vs ps ts f st cy
section
variable (hg:smallG vs ps) (f:List Prt) (hf:f.length≤60) (st cy:List Stp) (hst:st.length≤6) (hcy:cy.length≤6) (n:Nat) (hn:n=st.length+cy.length)
include hg hf hst hcy hn in
theorem al_l1 (i:Nat) (hi:i<f.length) (K:List (List Int)) (rows:List (List Bool)) (hrl:rows.length≤60) (p:Prt) (hp:f.getD i (Ty.dflt ty66)=p) (hsh:shortE p.2) (D:Nat) (X:Option (List (List Bool))) (hX:∀ m,D<m→alR vs ps ts f st cy m (.l0 (n:Nat) ((i+1:Nat):Int) K (rows++[rowL n (valE vs ps ts (st++cy) p.2)]))=X) :
  ∀ (t c m:Nat),c+t=n→D+t+1<m→∀ (row:List Bool),row.length=n→(∀ j,j<c→fnB row j=valE vs ps ts (st++cy) p.2 j)→alR vs ps ts f st cy m (.l1 (n:Nat) (i:Nat) (c:Nat) K rows row)=X
 | t,c,0,hc,hm,row,hr,hk=>by omega
 | 0,c,m+1,hc,hm,row,hr,hk=>by
   show T21 Ops.std _ _ _ _ _ _ vs ps ts f st cy _ some _=_
   unfold T21
   simp only [qae,qam,qaa,mt,List.length_cons,List.length_nil]
   rw [if_neg (by omega),if_pos (by omega),show IntKind.wrap IntKind.i64 ((i:Int)+1)=((i+1:Nat):Int) from qaf (by omega),qe7 hr fun j hj=>hk j (by omega)]
   exact hX m (by omega)
 | t+1,c,m+1,hc,hm,row,hr,hk=>by
   show T21 Ops.std _ _ _ _ _ _ vs ps ts f st cy _ some _=_
   unfold T21
   simp only [qae,qak,qag,qaa,qab,hp,hr]
   rw [if_pos (by omega),if_pos (by omega),at_ok st cy c (by omega) (by omega) (by omega),ob_s]
   obtain ⟨v,hv⟩:=eval_ok (ts:=ts) hg ((st++cy).getD c (Ty.dflt ty68)).1.1 ((st++cy).getD c (Ty.dflt ty68)).1.2 p.2 hsh
   have hval:valE vs ps ts (st++cy) p.2 c=!decide (v=0):=by unfold valE;rw [hv];rfl
   simp only [hv,ob_s]
   rw [if_pos (by omega),show IntKind.wrap IntKind.i64 ((c:Int)+1)=((c+1:Nat):Int) from qaf (by omega)]
   refine al_l1 i hi K rows hrl p hp hsh D X hX t (c+1) m (by omega) (by omega) _ (by simp [hr]) fun j hj=>?_
   rw [qdx _ _ (by omega)]
   by_cases h:j=c
   ·rw [if_pos h,h,hval]
   ·rw [if_neg h];exact hk j (by omega)
end
theorem qcl (hR:M18 vs ps ts=some true) (hM:goodM vs ps) (w:List Stp×List Stp) (hw:wordOk vs ps w):∀ (t i n:Nat),i+t=w.1.length+w.2.length→t<n→
  R42 M18 M65 M81 vs ps ts w.1 w.2 n (.l0 i)=some true
 | t,i,0,hi,hn=>by omega
 | 0,i,n+1,hi,hn=>by
   obtain ⟨w1,w2,w3,w4,w5⟩:=hw
   show T42 Ops.std _ _ _ vs ps ts w.1 w.2 _ some _=_
   unfold T42
   simp only [qae,qaa,wrap64 (show -9223372036854775808≤(w.1.length:Int)+(w.2.length:Int) by omega) (by omega)]
   rw [if_neg (by omega)]
 | t+1,i,n+1,hi,hn=>by
   have ih:=qcl hR hM w hw t (i+1) n (by omega) (by omega)
   obtain ⟨w1,w2,w3,w4,w5⟩:=hw
   show T42 Ops.std _ _ _ vs ps ts w.1 w.2 _ some _=_
   unfold T42
   simp only [qae,qaa,wrap64 (show -9223372036854775808≤(w.1.length:Int)+(w.2.length:Int) by omega) (by omega)]
   rw [if_pos (by omega),at_ok w.1 w.2 i (by omega) (by omega) (by omega),ob_s]
   have hmem:(w.1++w.2).getD i (Ty.dflt ty68)∈w.1++w.2:=qau (by simp;omega) _
   have hgs:goodSt vs ps ((w.1++w.2).getD i (Ty.dflt ty68)).1:=by
    rcases List.mem_append.mp hmem with h | h
    ·exact w4 _ h
    ·exact w5 _ h
   simp only [RightState_ok hR hM hgs,ob_s,Bool.not_true,cond_false,show IntKind.wrap IntKind.i64 ((i:Int)+1)=((i+1:Nat):Int) from qaf (by omega)]
   exact ih
theorem RightLasso_ok (hR:M18 vs ps ts=some true) (hM:goodM vs ps) (w:List Stp×List Stp) (hw:wordOk vs ps w):M42 vs ps ts w.1 w.2=some true:=by
 have hl:=qcl ts hR hM w hw (w.1.length+w.2.length) 0 1000000 (by omega) (by have:=hw.1;have:=hw.2.2.1;omega)
 obtain ⟨w1,w2,w3,w4,w5⟩:=hw
 show T42 Ops.std M18 M65 M81 vs ps ts w.1 w.2 (R42 M18 M65 M81 vs ps ts w.1 w.2 1000000) some none=_
 unfold T42
 rw [hR,ob_s]
 simp only [Bool.not_true,cond_false,qae,qaa,wrap64 (show -9223372036854775808≤(w.1.length:Int)+(w.2.length:Int) by omega) (by omega)]
 rw [if_neg (by omega),if_neg (by omega)]
 exact hl
theorem wf_atm {t:Fm Trm} (ht:WF t):atmOk t.flat:=fun p hp h3=>wf_short ht p hp
noncomputable abbrev allV (vs:List Vrb) (ps:List Pcs) (ts:List Trn) (w:List Stp×List Stp) (u:Fm Trm):List Bool:=rowL (w.1.length+w.2.length) (semT (w.1.length+w.2.length) w.1.length (valE vs ps ts (w.1++w.2)) u)
theorem All_loop (hg:smallG vs ps) (t:Fm Trm) (ht:WF t) (h60:t.size≤60) (w:List Stp×List Stp) (hw:wordOk vs ps w) (R:List (List Bool)):∀ (hend:∀ m,0<m→alR vs ps ts t.flat w.1 w.2 m (.l0 ((w.1.length+w.2.length:Nat):Int) ((t.size:Nat):Int) (t.kids 0) (t.post (allV vs ps ts w)))=some R),∀ m,t.size*(w.1.length+w.2.length+2)<m→alR vs ps ts t.flat w.1 w.2 m (.l0 ((w.1.length+w.2.length:Nat):Int) ((0:Nat):Int) (t.kids 0) [])=some R:=by
 intro hend
 obtain ⟨w1,w2,w3,w4,w5⟩:=hw
 have hlf:=t.flat_len
 have hlk:=t.kids_len 0
 obtain ⟨n,hn⟩:∃ n,w.1.length+w.2.length=n:=⟨_,rfl⟩
 have hb:w.1.length<n:=by omega
 have hfu:∀ i,i<t.size→(t.size-i)*(n+2)=(t.size-(i+1))*(n+2)+(n+2):=fun i hi=>by
  rw [show t.size-i=(t.size-(i+1))+1 by omega,Nat.succ_mul]
 have key:=post_back (allV vs ps ts w) (Ty.dflt ty47) (f:=t.flat) (K:=t.kids 0) (E:=rightE) (fun _=>True) (fun _ _ _=>trivial) (fun _ _ _ _=>⟨trivial,trivial⟩)
  (fun i done=>∀ m,(t.size-i)*(n+2)<m→alR vs ps ts t.flat w.1 w.2 m (.l0 (n:Nat) (i:Nat) (t.kids 0) done)=some R)
 rw [hn] at hend ⊢
 have hval:∀ u,allV vs ps ts w u=rowL n (semT n w.1.length (valE vs ps ts (w.1++w.2)) u):=fun u=>by unfold allV;rw [hn]
 refine key ?_ ?_ ?_ t ht trivial 0 (At.all _) [] rfl ?_
 ·intro i p done hwf _ hi hi2 hd hr hk hX m hm
  have hD:=hfu i (by omega)
  obtain ⟨D,hDe⟩:∃ D,(t.size-(i+1))*(n+2)=D:=⟨_,rfl⟩
  rw [hDe] at hD hX
  rw [hD] at hm
  rw [hval] at hX
  obtain ⟨m,rfl⟩:∃ m',m=m'+1:=⟨m-1,by omega⟩
  show T21 Ops.std _ _ _ _ _ _ vs ps ts t.flat w.1 w.2 _ some _=_
  unfold T21
  have h0n:(0:Int)≤(n:Int):=by omega
  have hlim:n*1≤140737488355328:=by omega
  simp only [qae,qak,qan,qag,qam,qaa,qab,mt,List.length_cons,List.length_nil,hr,hk,decide_true,h0n,hlim,cond_true]
  rw [if_pos (by omega),if_pos (by omega)]
  by_cases h3:p.1=3
  ·rw [if_pos h3]
   refine al_l1 ts hg t.flat (by omega) w.1 w.2 w1 w3 n hn.symm i hi (t.kids 0) done (by omega) p hr (qbk (hwf.2.1 h3)) D (some R) ?_ n 0 m (by omega) (by omega) _ (by simp) (fun j hj=>by omega)
   have hs0:semT n w.1.length (valE vs ps ts (w.1++w.2)) (Fm.nul p)=valE vs ps ts (w.1++w.2) p.2:=by
    show sem0 _ p=_
    unfold sem0;rw [if_neg (by omega),if_neg (by omega)]
   rw [hs0] at hX
   exact hX
  ·have h12:=opn0 hwf.1
   rw [if_neg h3,if_pos (by omega),if_neg (by omega),if_pos (by omega),if_neg (by omega),if_pos (by omega)]
   have htr:M66 p.1 [] [] (n:Nat) (w.1.length:Nat)=some (rowL n (semT n w.1.length (valE vs ps ts (w.1++w.2)) (Fm.nul p))):=by
    refine qdy hb (by omega) (by rw [hwf.1];omega) ⟨fun h=>by omega,fun h=>by omega⟩ fun i hi=>?_
    show _=sem0 _ p i
    unfold rowOK sem0
    rcases h12 with h | h | h
    ·rw [if_pos h,if_pos h]
    ·rw [if_neg (by omega),if_pos (by omega),if_neg (by omega),if_pos h]
    ·exact absurd h h3
   rw [htr,ob_s,if_pos (by omega),show IntKind.wrap IntKind.i64 ((i:Int)+1)=((i+1:Nat):Int) from qaf (by omega)]
   exact hX m (by omega)
 ·intro i p a j done hwf _ hi hi2 hd hr hk hj hda hX m hm
  have hD:=hfu i (by omega)
  obtain ⟨D,hDe⟩:∃ D,(t.size-(i+1))*(n+2)=D:=⟨_,rfl⟩
  rw [hDe] at hD hX
  rw [hD] at hm
  rw [hval] at hX hda
  obtain ⟨m,rfl⟩:∃ m',m=m'+1:=⟨m-1,by omega⟩
  have ho:=opn1 hwf.1
  show T21 Ops.std _ _ _ _ _ _ vs ps ts t.flat w.1 w.2 _ some _=_
  unfold T21
  simp only [qae,qak,qan,qag,qam,qaa,qab,mt,List.length_cons,List.length_nil,hr,hk,hz1,hda]
  rw [if_pos (by omega),if_pos (by omega),if_neg (by omega),if_pos (by omega),if_pos (by omega),if_pos (by omega),if_pos (by omega),if_pos (by omega),if_pos (by omega),if_pos (by omega),if_pos (by omega),if_pos (by omega),if_neg (by omega),if_pos (by omega)]
  have htr:M66 p.1 (rowL n (semT n w.1.length (valE vs ps ts (w.1++w.2)) a)) [] (n:Nat) (w.1.length:Nat)=some (rowL n (semT n w.1.length (valE vs ps ts (w.1++w.2)) (Fm.un p a))):=by
   refine qdy hb (by omega) (by rw [hwf.1];omega) ⟨fun h=>qa7 _ _,fun h=>by omega⟩ fun i hi=>?_
   unfold rowOK
   rw [if_neg (by omega),if_neg (by omega),if_pos (by omega)]
   exact sem1_congr hb p.1 (fun i hi=>qbp n _ i hi) i hi
  rw [htr,ob_s,if_pos (by omega),show IntKind.wrap IntKind.i64 ((i:Int)+1)=((i+1:Nat):Int) from qaf (by omega)]
  exact hX m (by omega)
 ·intro i p a c j k done hwf _ hi hi2 hd hr hk hj hk2 hda hdc hX m hm
  have hD:=hfu i (by omega)
  obtain ⟨D,hDe⟩:∃ D,(t.size-(i+1))*(n+2)=D:=⟨_,rfl⟩
  rw [hDe] at hD hX
  rw [hD] at hm
  rw [hval] at hX hda hdc
  obtain ⟨m,rfl⟩:∃ m',m=m'+1:=⟨m-1,by omega⟩
  have ho:=opn2 hwf.1
  show T21 Ops.std _ _ _ _ _ _ vs ps ts t.flat w.1 w.2 _ some _=_
  unfold T21
  simp only [qae,qak,qan,qag,qam,qaa,qab,mt,List.length_cons,List.length_nil,hr,hk,hz20,hz21,hda,hdc]
  rw [if_pos (by omega),if_pos (by omega),if_neg (by omega),if_pos (by omega),if_pos (by omega),if_pos (by omega),if_pos (by omega),if_pos (by omega),if_pos (by omega),if_pos (by omega),if_pos (by omega),if_pos (by omega),if_pos (by omega),if_pos (by omega),if_pos (by omega),if_pos (by omega),if_pos (by omega),if_pos (by omega),if_pos (by omega),if_pos (by omega)]
  have htr:M66 p.1 (rowL n (semT n w.1.length (valE vs ps ts (w.1++w.2)) a)) (rowL n (semT n w.1.length (valE vs ps ts (w.1++w.2)) c)) (n:Nat) (w.1.length:Nat)=some (rowL n (semT n w.1.length (valE vs ps ts (w.1++w.2)) (Fm.bi p a c))):=by
   refine qdy hb (by omega) (by rw [hwf.1];omega) ⟨fun h=>qa7 _ _,fun h=>qa7 _ _⟩ fun i hi=>?_
   unfold rowOK
   rw [if_neg (by omega),if_neg (by omega),if_neg (by omega)]
   exact sem2_congr hb p.1 (fun i hi=>qbp n _ i hi) (fun i hi=>qbp n _ i hi) i hi
  rw [htr,ob_s,if_pos (by omega),show IntKind.wrap IntKind.i64 ((i:Int)+1)=((i+1:Nat):Int) from qaf (by omega)]
  exact hX m (by omega)
 ·intro m hm
  simp only [Nat.zero_add,List.nil_append]
  exact hend m (by omega)
theorem All_ok (hR:M18 vs ps ts=some true) (hM:goodM vs ps) (hg:smallG vs ps) (t:Fm Trm) (ht:WF t) (h60:t.size≤60) (hk:knA vs ps ts t.flat=true) (w:List Stp×List Stp) (hw:wordOk vs ps w) :
  M21 vs ps ts t.flat w.1 w.2=some (t.post (allV vs ps ts w)):=by
 have hl:=All_loop ts hg t ht h60 w hw (t.post (allV vs ps ts w)) (fun m hm=>by
  obtain ⟨m,rfl⟩:∃ m',m=m'+1:=⟨m-1,by omega⟩
  have hlf:=t.flat_len
  show T21 Ops.std _ _ _ _ _ _ vs ps ts t.flat w.1 w.2 _ some _=_
  unfold T21
  simp only [qae,qaa]
  rw [if_neg (by omega)]) 1000000 (by
   have h1:=hw.1;have h2:=hw.2.2.1
   have:t.size*(w.1.length+w.2.length+2)≤60*14:=Nat.mul_le_mul h60 (by omega)
   omega)
 have hla:=RightLasso_ok ts hR hM w hw
 obtain ⟨w1,w2,w3,w4,w5⟩:=hw
 show T21 Ops.std M19 M42 M37 M65 M64 M66 vs ps ts t.flat w.1 w.2 (alR vs ps ts t.flat w.1 w.2 1000000) some none=_
 unfold T21
 rw [qfy ts hg t.flat (by rw [t.flat_len];exact h60) (wf_atm ht) (T_rightR ht h60),ob_s,hk,hla,ob_s,ref_kids_yes rightE ht h60 (T_rightR ht h60),ob_s,wrap64 (show -9223372036854775808≤(w.1.length:Int)+(w.2.length:Int) by omega) (by omega)]
 exact hl
end
theorem ruF_mono' (a:Nat→Bool):mono (ruF a):=by rw [ruF_U];exact qbm _ _
theorem ruG_mono' (a:Nat→Bool):mono (ruG a):=by rw [ruG_R];exact qb4 _ _
section
variable {n back n' back':Nat} (hb:back<n) (hb':back'<n') (h:Nat→Nat) (hn:∀ i,i<n'→h i<n) (hx:∀ i,i<n'→h (nx n' back' i)=nx n back (h i))
include hb hb' hn hx
theorem lf_map {g g':Nat→Bool→Bool} (hg:mono g) (hg':mono g') (he:∀ i x,i<n'→g' i x=g (h i) x):∀ i,i<n'→lf n' back' g' i=lf n back g (h i):=by
 have h1:leB n' (lf n' back' g') fun i=>lf n back g (h i):=by
  refine qda hg' hb' _ fun i hi hgi=>?_
  show lf n back g (h i)=true
  rw [lf_fix hg hb (h i) (hn i hi),←hx i hi,←he i _ hi]
  exact hgi
 have h2:leB n (lf n back g) fun j=>(List.range n').all fun i=>!decide (h i=j) || lf n' back' g' i:=by
  refine qda hg hb _ fun j hj hgj=>?_
  rw [List.all_eq_true]
  intro i hi
  have hi:=List.mem_range.1 hi
  by_cases hij:h i=j
  ·simp only [hij,decide_true,Bool.not_true,Bool.false_or]
   rw [lf_fix hg' hb' i hi,he i _ hi,hij]
   refine hg.imp (fun hP=>?_) hgj
   rw [List.all_eq_true] at hP
   have:=hP (nx n' back' i) (List.mem_range.2 (qe3 n' back' hb' hi))
   rw [hx i hi,hij] at this
   simpa using this
  ·simp [hij]
 intro i hi
 cases hc:lf n back g (h i) with
 | false=>
   cases hd:lf n' back' g' i with
   | false=>rfl
   | true=>
     have hq:lf n back g (h i)=true:=h1 i hi hd
     rw [hc] at hq;cases hq
 | true=>
   have:=h2 (h i) (hn i hi) hc
   rw [List.all_eq_true] at this
   have:=this i (List.mem_range.2 hi)
   simpa using this
theorem gf_map {g g':Nat→Bool→Bool} (hg:mono g) (hg':mono g') (he:∀ i x,i<n'→g' i x=g (h i) x):∀ i,i<n'→gf n' back' g' i=gf n back g (h i):=by
 intro i hi
 have hd:=lf_map hb hb' h hn hx (qc9 hg) (qc9 hg') (fun i x hi=>by unfold dual;rw [he i _ hi]) i hi
 have e1:=congrFun (lf_dual (n:=n') (back:=back') g') i
 have e2:=congrFun (lf_dual (n:=n) (back:=back) g) (h i)
 rw [e1,e2] at hd
 cases h1:gf n' back' g' i<;>cases h2:gf n back g (h i)<;>simp_all
end
section
variable {vs:List Vrb} {ps:List Pcs} (ts:List Trn)
noncomputable abbrev ixV (vs:List Vrb):=R163 M164 vs
theorem ixV_loop (hv:vs.length≤100000) (s:List UInt8):∀ (t i n:Nat),i+t=vs.length→t<n→∃ r,ixV vs s n (.l0 (vs.length:Nat) i s)=some (r,s)∧R109 vs ps ts s n (.l0 i)=some r
 | t,i,0,hi,hn=>by omega
 | 0,i,n+1,hi,hn=>by
   show ∃ r,T163 Ops.std _ vs s _ some _=some (r,s)∧T109 Ops.std vs ps ts s _ some _=some r
   unfold T163 T109
   simp only [qae,qaa]
   rw [if_neg (by omega),if_neg (by omega)]
   exact ⟨_,rfl,rfl⟩
 | t+1,i,n+1,hi,hn=>by
   have ih:=ixV_loop hv s t (i+1) n (by omega) (by omega)
   have hc:∀ v:Vrb,M164 v.1 v.2.1 v.2.2.1 v.2.2.2 s=some (v.1 == s,s):=fun v=>rfl
   show ∃ r,T163 Ops.std _ vs s _ some _=some (r,s)∧T109 Ops.std vs ps ts s _ some _=some r
   unfold T163 T109
   simp only [qae,qag,qaa,qab,show IntKind.wrap IntKind.i64 ((i:Int)+1)=((i+1:Nat):Int) from qaf (by omega)]
   rw [if_pos (by omega),if_pos (by omega),if_pos (by omega),if_pos (by omega),hc,ob_s]
   dsimp only
   cases (vs.getD i (Ty.dflt ty94)).1 == s with
   | true=>exact ⟨_,rfl,rfl⟩
   | false=>exact ih
theorem qe8 (hv:vs.length≤100000) (s:List UInt8):M119 vs ps ts s=M109 vs ps ts s:=by
 obtain ⟨r,h1,h2⟩:=ixV_loop (ps:=ps) ts hv s vs.length 0 1000000 (by omega) (by omega)
 have e1:M163 vs s=some (r,s):=by
  show T163 Ops.std M164 vs s (ixV vs s 1000000) some none=_
  unfold T163
  exact h1
 have e2:M109 vs ps ts s=some r:=by
  show T109 Ops.std vs ps ts s (R109 vs ps ts s 1000000) some none=_
  unfold T109
  exact h2
 show T119 Ops.std M164 M163 vs ps ts s some=_
 unfold T119
 rw [e1,ob_s,e2]
noncomputable abbrev ixP (ps:List Pcs):=R165 M166 ps
theorem ixP_loop (hv:ps.length≤100000) (s:List UInt8):∀ (t i n:Nat),i+t=ps.length→t<n→∃ r,ixP ps s n (.l0 (ps.length:Nat) i s)=some (r,s)∧R105 vs ps ts s n (.l0 i)=some r
 | t,i,0,hi,hn=>by omega
 | 0,i,n+1,hi,hn=>by
   show ∃ r,T165 Ops.std _ ps s _ some _=some (r,s)∧T105 Ops.std vs ps ts s _ some _=some r
   unfold T165 T105
   simp only [qae,qaa]
   rw [if_neg (by omega),if_neg (by omega)]
   exact ⟨_,rfl,rfl⟩
 | t+1,i,n+1,hi,hn=>by
   have ih:=ixP_loop hv s t (i+1) n (by omega) (by omega)
   have hc:∀ v:Pcs,M166 v.1 v.2 s=some (v.1 == s,s):=fun v=>rfl
   show ∃ r,T165 Ops.std _ ps s _ some _=some (r,s)∧T105 Ops.std vs ps ts s _ some _=some r
   unfold T165 T105
   simp only [qae,qag,qaa,qab,show IntKind.wrap IntKind.i64 ((i:Int)+1)=((i+1:Nat):Int) from qaf (by omega)]
   rw [if_pos (by omega),if_pos (by omega),if_pos (by omega),if_pos (by omega),hc,ob_s]
   dsimp only
   cases (ps.getD i (Ty.dflt ty98)).1 == s with
   | true=>exact ⟨_,rfl,rfl⟩
   | false=>exact ih
theorem ixS_loop (hl:okLocs ps) (p:Nat) (hp:p<ps.length) (s:List UInt8):∀ (t i n:Nat),i+t=(ps.getD p (Ty.dflt ty98)).2.length→t<n→
  R167 (ps.getD p (Ty.dflt ty98)).2 s n (.l0 ((ps.getD p (Ty.dflt ty98)).2.length:Nat) i)=R108 vs ps ts p s n (.l0 i)
 | t,i,0,hi,hn=>by omega
 | 0,i,n+1,hi,hn=>by
   show T167 Ops.std _ s _ some _=T108 Ops.std vs ps ts p s _ some _
   unfold T167 T108
   simp only [qae,qag,qaa,qab]
   rw [if_neg (by omega),if_pos (by omega),if_neg (by omega)]
 | t+1,i,n+1,hi,hn=>by
   have ih:=ixS_loop hl p hp s t (i+1) n (by omega) (by omega)
   have hg:=hl.get p hp
   show T167 Ops.std _ s _ some _=T108 Ops.std vs ps ts p s _ some _
   unfold T167 T108
   simp only [qae,qag,qaa,qab,show IntKind.wrap IntKind.i64 ((i:Int)+1)=((i+1:Nat):Int) from qaf (by omega)]
   rw [if_pos (by omega),if_pos (by omega),if_pos (by omega),if_pos (by omega),if_pos (by omega),if_pos (by omega)]
   rw [show (s == (ps.getD p (Ty.dflt ty98)).2.getD i (Ty.dflt Ty.str))=((ps.getD p (Ty.dflt ty98)).2.getD i (Ty.dflt Ty.str) == s) from Bool.beq_comm]
   generalize ((ps.getD p (Ty.dflt ty98)).2.getD i (Ty.dflt Ty.str) == s)=b
   cases b with
   | true=>rfl
   | false=>exact ih
theorem place_eq (hg:smallG vs ps) (s l:List UInt8):∃ q r,M105 vs ps ts s=some q∧M108 vs ps ts q l=some r∧M120 vs ps ts s l=some (q,r):=by
 obtain ⟨q,h1,h2⟩:=ixP_loop (vs:=vs) ts hg.p s ps.length 0 1000000 (by omega) (by have:=hg.p;omega)
 have e1:M165 ps s=some (q,s):=by
  show T165 Ops.std M166 ps s (ixP ps s 1000000) some none=_
  unfold T165
  exact h1
 have e2:M105 vs ps ts s=some q:=by
  show T105 Ops.std vs ps ts s (R105 vs ps ts s 1000000) some none=_
  unfold T105
  exact h2
 obtain ⟨q',q1,q2⟩:=qdv vs ps ts hg.p s
 have:q'=q:=by rw [e2] at q1;exact (Option.some.inj q1).symm
 subst this
 obtain ⟨r,r1,_⟩:=qeg vs ps ts hg.l q' q2 l
 refine ⟨q',r,e2,r1,?_⟩
 show T120 Ops.std M166 M165 M167 vs ps ts s l some=_
 unfold T120
 rw [e1,ob_s]
 simp only [qae,qag,qaa]
 rcases q2 with rfl | ⟨k,hk,rfl⟩
 ·rw [if_pos (by omega)]
  have:M108 vs ps ts (-1) l=some (-1):=by
   show T108 Ops.std vs ps ts (-1) l (R108 vs ps ts (-1) l 1000000) some none=_
   unfold T108
   simp only [qae,qaa]
   rw [if_pos (by omega)]
  rw [this] at r1
  rw [←Option.some.inj r1]
 ·rw [if_neg (by omega),if_pos (by omega),qab]
  have e3:M167 (ps.getD k (Ty.dflt ty98)).2 l=M108 vs ps ts (k:Int) l:=by
   show T167 Ops.std (ps.getD k (Ty.dflt ty98)).2 l (R167 (ps.getD k (Ty.dflt ty98)).2 l 1000000) some none=T108 Ops.std vs ps ts (k:Int) l (R108 vs ps ts (k:Int) l 1000000) some none
   unfold T167 T108
   simp only [qae,qaa]
   rw [if_neg (by omega)]
   exact ixS_loop (vs:=vs) ts hg.l k hk l _ 0 1000000 (Nat.zero_add _) (by have:=hg.l.get k hk;omega)
  rw [e3,r1,ob_s]
noncomputable abbrev kxP (vs:List Vrb) (ps:List Pcs) (ts:List Trn) (e:List Trm):=R116 M119 M120 M156 vs ps ts e
noncomputable abbrev kxR (vs:List Vrb) (ps:List Pcs) (ts:List Trn) (e:List Trm):=R62 M109 M105 M108 M110 vs ps ts e
theorem qe9 (hg:smallG vs ps) (e:List Trm) (he:shortE e):∀ (t i n:Nat),i+t=e.length→t<n→kxP vs ps ts e n (.l0 (e.length:Nat) i)=kxR vs ps ts e n (.l0 i)
 | t,i,0,hi,hn=>by omega
 | 0,i,n+1,hi,hn=>by
   show T116 Ops.std _ _ _ vs ps ts e _ some _=T62 Ops.std _ _ _ _ vs ps ts e _ some _
   unfold T116 T62
   simp only [qae,qaa]
   rw [if_neg (by omega),if_neg (by omega),he.right,ob_s,qex e (by have:=he.1;omega),ob_s]
 | t+1,i,n+1,hi,hn=>by
   have ih:=qe9 hg e he t (i+1) n (by omega) (by omega)
   have h30:=he.1
   obtain ⟨x,hx⟩:∃ x,e.getD i (Ty.dflt ty150)=x:=⟨_,rfl⟩
   obtain ⟨q,r,q1,r1,p1⟩:=place_eq ts hg x.2.2.1 x.2.2.2
   obtain ⟨v,v1,v2⟩:=qcy vs ps ts hg.v x.2.2.1
   show T116 Ops.std _ _ _ vs ps ts e _ some _=T62 Ops.std _ _ _ _ vs ps ts e _ some _
   unfold T116 T62
   simp only [qae,qag,qak,qaa,qab,hx,qe8 ts hg.v,show IntKind.wrap IntKind.i64 ((i:Int)+1)=((i+1:Nat):Int) from qaf (by omega)]
   have hin:(0:Int)≤(i:Int)∧(i:Int)<(e.length:Int):=by omega
   simp only [if_pos hin,if_pos hin.2]
   by_cases h2:x.1=2
   ·rw [if_pos h2,if_pos h2,v1,ob_s,ob_s]
    by_cases hv:v<0
    ·rw [if_pos hv,if_pos hv]
    ·rw [if_neg hv,if_neg hv,if_neg (by omega)];exact ih
   ·rw [if_neg h2,if_neg h2]
    by_cases h3:x.1=3
    ·rw [if_pos h3,if_pos h3,p1,ob_s,q1,ob_s,r1,ob_s]
     dsimp only
     by_cases hr:r<0
     ·rw [if_pos hr,if_pos hr]
     ·rw [if_neg hr,if_neg hr];exact ih
    ·rw [if_neg h3,if_neg h3];exact ih
theorem qdd (hg:smallG vs ps) (e:List Trm) (he:shortE e):M116 vs ps ts e=some (knB vs ps ts e):=by
 obtain ⟨b,hb,_⟩:=qbn ts hg e he
 have:M116 vs ps ts e=M62 vs ps ts e:=by
  show T116 Ops.std M119 M120 M156 vs ps ts e (kxP vs ps ts e 1000000) some none=T62 Ops.std M109 M105 M108 M110 vs ps ts e (kxR vs ps ts e 1000000) some none
  unfold T116 T62
  exact qe9 ts hg e he e.length 0 1000000 (by omega) (by have:=he.1;omega)
 rw [this]
 unfold knB
 rw [hb];rfl
theorem within_eq (n:Int):M118 n=M111 n:=by
 show T118 Ops.std n some=T111 Ops.std n some
 unfold T118 T111
 simp only [qae,ite_dec,cond_true,cond_false]
 congr 1
 (repeat' split)<;>omega
theorem truth_eq (b:Bool):M121 b=M112 b:=by cases b<;>rfl
theorem two_eq (op a b:Int):M122 op a b=M113 op a b:=by
 show T122 Ops.std M118 M121 op a b some=T113 Ops.std M111 M112 op a b some
 unfold T122 T113
 rw [show M118=M111 from funext within_eq,show M121=M112 from funext truth_eq]
noncomputable abbrev evP (vs:List Vrb) (ps:List Pcs) (ts:List Trn) (s1 s2:List Int) (e:List Trm):=R68 M116 M117 M119 M118 M120 M121 M122 vs ps ts s1 s2 e
theorem qfz (hg:smallG vs ps) (s1 s2:List Int) (h1:s1.length=ps.length) (h2:s2.length=vs.length) (e:List Trm) (he:e.length≤30) (hk:∀ x∈e,knE vs ps ts x):∀ (t i n:Nat) (st:List Int),i+t=e.length→t<n→st.length≤i→fin30 e (eGo (e.drop i) st.length)=true→
  evP vs ps ts s1 s2 e n (.l0 (e.length:Nat) i st)=evR vs ps ts s1 s2 e n (.l0 i st)
 | t,i,0,st,hi,hn,hs,hf=>by omega
 | 0,i,n+1,st,hi,hn,hs,hf=>by
   rw [List.drop_eq_nil_of_le (by omega)] at hf
   simp only [eGo,fin30,Bool.and_eq_true,decide_eq_true_eq] at hf
   show T68 Ops.std _ _ _ _ _ _ _ vs ps ts s1 s2 e _ some _=T64 Ops.std _ _ _ _ _ _ _ vs ps ts s1 s2 e _ some _
   unfold T68 T64
   simp only [qae,qak,qag,qaa]
   rw [if_neg (by omega),if_pos (by omega),if_neg (by omega),if_neg (by omega)]
 | t+1,i,n+1,st,hi,hn,hs,hf=>by
   have ih:=fun st=>qfz hg s1 s2 h1 h2 e he hk t (i+1) n st (by omega) (by omega)
   rw [qaq (Ty.dflt ty150) (by omega)] at hf
   obtain ⟨x,hx⟩:∃ x,e.getD i (Ty.dflt ty150)=x:=⟨_,rfl⟩
   have hm:x∈e:=by rw [←hx];exact qau (by omega) _
   rw [hx] at hf
   simp only [eGo] at hf
   have hmay:mayT x=true:=by
    cases h:mayT x with
    | true=>rfl
    | false=>rw [h] at hf;simp [fin30] at hf
   have hop:=mayT_op hmay
   obtain ⟨hb1,hb2⟩:=opE_le x.1
   have hd:¬ ((st.length:Nat):Int)<opE x.1:=fun h=>by rw [hmay] at hf;simp [h,fin30] at hf
   simp only [hmay,hd,Bool.not_true,decide_false,Bool.or_false,Bool.false_eq_true,if_false] at hf
   have ha:opE x.1=((opE x.1).toNat:Int):=by omega
   generalize (opE x.1).toNat=a at ha
   have ha2:a≤2:=by omega
   have hal:a≤st.length:=by omega
   have hnx:∀ y:Int,fin30 e (eGo (e.drop (i+1)) ((st.take (st.length-a)++[y]).length:Nat))=true:=fun y=>by
    rw [←hf,ha]
    congr 2
    simp;omega
   have hwa:IntKind.wrap IntKind.i64 ((st.length:Int)-(a:Int))=((st.length-a:Nat):Int):=by rw [wrap64 (by omega) (by omega)];omega
   show T68 Ops.std _ _ _ _ _ _ _ vs ps ts s1 s2 e _ some _=T64 Ops.std _ _ _ _ _ _ _ vs ps ts s1 s2 e _ some _
   unfold T68 T64
   simp only [qae,qak,qag,qam,qaa,qab,hx,mt,opE_prog,ob_s,ha,hwa,qe8 ts hg.v,within_eq,truth_eq,two_eq,List.length_cons,List.length_nil,show IntKind.wrap IntKind.i64 ((i:Int)+1)=((i+1:Nat):Int) from qaf (by omega)]
   have hin:(0:Int)≤(i:Int)∧(i:Int)<(e.length:Int):=by omega
   have hlim:∀ l:List Int,l.length≤st.length→(l.length+(0+1))*8≤140737488355328:=fun l h=>by omega
   have hit:(0:Int)≤((st.length-a:Nat):Int)∧((st.length-a:Nat):Int)<((st.length+1:Nat):Int):=by omega
   have htl:(st.take (st.length-a)).length≤st.length:=by rw [List.length_take];omega
   simp only [if_pos hin,if_pos hin.2]
   by_cases o1:x.1=1
   ·have h0:a=0:=by have e:opE x.1=0:=(congrArg opE o1).trans rfl;omega
    have et:st.take (st.length-a)=st:=by rw [h0];simp
    have n1:=hnx x.2.1
    rw [et] at n1
    rw [if_pos o1,if_pos o1,if_pos hit,et,if_pos (by omega),if_pos (by omega)]
    exact ih _ (by simp;omega) n1
   rw [if_neg o1,if_neg o1]
   by_cases o2:x.1=2
   ·have h0:a=0:=by have e:opE x.1=0:=(congrArg opE o2).trans rfl;omega
    have et:st.take (st.length-a)=st:=by rw [h0];simp
    obtain ⟨k,hk1,hk2⟩:=(hk x hm).1 o2
    obtain ⟨y,hy⟩:=qbv (s2.getD k (Ty.dflt ty3))
    have n1:=hnx y
    rw [et] at n1
    have hkin:(0:Int)≤(k:Int)∧(k:Int)<(s2.length:Int):=by omega
    rw [if_pos o2,if_pos o2,hk2,ob_s,ob_s,if_pos hkin,if_pos hkin,qab,hy,ob_s,ob_s,if_pos hit,et,if_pos (by omega),if_pos (by omega)]
    exact ih _ (by simp;omega) n1
   rw [if_neg o2,if_neg o2]
   by_cases o3:x.1=3
   ·have h0:a=0:=by have e:opE x.1=0:=(congrArg opE o3).trans rfl;omega
    have et:st.take (st.length-a)=st:=by rw [h0];simp
    obtain ⟨q,r,q1,q2,q3⟩:=(hk x hm).2 o3
    obtain ⟨q',r',p1,p2,p3⟩:=place_eq ts hg x.2.2.1 x.2.2.2
    rw [q2] at p1
    have e1:=Option.some.inj p1
    subst e1
    rw [q3] at p2
    have e2:=Option.some.inj p2
    subst e2
    obtain ⟨y,hy⟩:=qbw (decide (s1.getD q (Ty.dflt ty3)=r))
    have n1:=hnx y
    rw [et] at n1
    have hqin:(0:Int)≤(q:Int)∧(q:Int)<(s1.length:Int):=by omega
    rw [if_pos o3,if_pos o3,p3,q2,ob_s,ob_s]
    dsimp only
    rw [if_pos hqin,if_pos hqin,q3,ob_s,qab,hy,ob_s,ob_s,if_pos hit,et,if_pos (by omega),if_pos (by omega)]
    exact ih _ (by simp;omega) n1
   rw [if_neg o3,if_neg o3]
   by_cases o4:x.1=4
   ·have h1:a=1:=by have e:opE x.1=1:=(congrArg opE o4).trans rfl;omega
    subst h1
    have hw1:IntKind.wrap IntKind.i64 ((st.length:Int)-1)=((st.length-1:Nat):Int):=by rw [wrap64 (by omega) (by omega)];omega
    obtain ⟨y,hy⟩:=qbw (decide (st.getD (st.length-1) (Ty.dflt ty3)=0))
    simp only [hw1,qab,hy,ob_s]
    have hi1:(0:Int)≤((st.length-1:Nat):Int)∧((st.length-1:Nat):Int)<(st.length:Int):=by omega
    rw [if_pos o4,if_pos o4,if_pos hi1,if_pos hit,if_pos (by omega),if_neg (by omega),if_pos trivial,if_pos hit,if_pos hi1,if_pos (by omega),if_pos (by omega)]
    exact ih _ (by simp;omega) (hnx y)
   rw [if_neg o4,if_neg o4]
   by_cases o5:x.1=5
   ·have h1:a=1:=by have e:opE x.1=1:=(congrArg opE o5).trans rfl;omega
    subst h1
    have hw1:IntKind.wrap IntKind.i64 ((st.length:Int)-1)=((st.length-1:Nat):Int):=by rw [wrap64 (by omega) (by omega)];omega
    obtain ⟨y,hy⟩:=qbv (IntKind.wrap IntKind.i64 (0-st.getD (st.length-1) (Ty.dflt ty3)))
    simp only [hw1,qab,hy,ob_s]
    have hi1:(0:Int)≤((st.length-1:Nat):Int)∧((st.length-1:Nat):Int)<(st.length:Int):=by omega
    rw [if_pos o5,if_pos o5,if_pos hi1,if_pos hit,if_pos (by omega),if_neg (by omega),if_pos trivial,if_pos hit,if_pos hi1,if_pos (by omega),if_pos (by omega)]
    exact ih _ (by simp;omega) (hnx y)
   rw [if_neg o5,if_neg o5]
   have h2':a=2:=by
    unfold opE at ha
    split at ha
    ·omega
    ·rw [if_neg (by omega),if_neg (by omega)] at ha;omega
   subst h2'
   have hw1:IntKind.wrap IntKind.i64 ((st.length:Int)-1)=((st.length-1:Nat):Int):=by rw [wrap64 (by omega) (by omega)];omega
   have hw2:IntKind.wrap IntKind.i64 ((st.length:Int)-2)=((st.length-2:Nat):Int):=by rw [wrap64 (by omega) (by omega)];omega
   have hw3:IntKind.wrap IntKind.i64 (((st.length-2:Nat):Int)+1)=((st.length-1:Nat):Int):=by rw [wrap64 (by omega) (by omega)];omega
   obtain ⟨y,hy⟩:=two_some x.1 (st.getD (st.length-2) (Ty.dflt ty3)) (st.getD (st.length-1) (Ty.dflt ty3))
   simp only [hw1,hw2,hw3,qab,hy,ob_s]
   have hi1:(0:Int)≤((st.length-1:Nat):Int)∧((st.length-1:Nat):Int)<(st.length:Int):=by omega
   have hi2:(0:Int)≤((st.length-2:Nat):Int)∧((st.length-2:Nat):Int)<(st.length:Int):=by omega
   rw [if_pos hi2,if_pos hi1,if_pos hit,if_pos (by omega),if_neg (by omega),if_pos trivial,if_pos hit,if_pos hi2,if_pos hi1,if_pos (by omega),if_pos (by omega)]
   exact ih _ (by simp;omega) (hnx y)
theorem evalP_eq (hg:smallG vs ps) (s1 s2:List Int) (e:List Trm) (he:shortE e):M68 vs ps ts s1 s2 e=M64 vs ps ts s1 s2 e:=by
 show T68 Ops.std M116 M117 M119 M118 M120 M121 M122 vs ps ts s1 s2 e (evP vs ps ts s1 s2 e 1000000) some none=T64 Ops.std M62 M109 M111 M105 M108 M112 M113 vs ps ts s1 s2 e (evR vs ps ts s1 s2 e 1000000) some none
 unfold T68 T64
 obtain ⟨b,b1,b2⟩:=qbn ts hg e he
 have e1:knB vs ps ts e=b:=by unfold knB;rw [b1];rfl
 rw [qdd ts hg e he,ob_s,b1,ob_s,e1]
 cases hb:b with
 | false=>rfl
 | true=>
   simp only [Bool.not_true,cond_false,qak,qas,qaa]
   by_cases c1:((s1.length:Nat):Int)=((ps.length:Nat):Int)
   ·rw [if_neg (fun h=>h c1)]
    by_cases c2:((s2.length:Nat):Int)=((vs.length:Nat):Int)
    ·rw [if_neg (fun h=>h c2),if_neg (fun h=>h c1),if_neg (fun h=>h c2)]
     exact qfz ts hg s1 s2 (by omega) (by omega) e he.1 (b2 hb).2 e.length 0 1000000 [] (by omega) (by have:=he.1;omega) (by simp) (b2 hb).1
    ·rw [if_pos c2,if_neg (fun h=>h c1),if_pos c2]
   ·rw [if_pos c1,if_pos c1]
theorem ixK_loop (hg:smallG vs ps) (f:List Prt) (hf:f.length≤60) (ha:atmOk f):∀ (t i n:Nat),i+t=f.length→t<n→∃ r:Int,R162 M115 f vs ps ts n (.l0 (f.length:Nat) i vs ps ts)=some (r,vs,ps,ts)∧(knA vs ps ts (f.drop i)=decide (r<0))
 | t,i,0,hi,hn=>by omega
 | 0,i,n+1,hi,hn=>by
   show ∃ r:Int,T162 Ops.std _ f vs ps ts _ some _=_∧_
   unfold T162
   simp only [qae,qaa]
   rw [if_neg (by omega),List.drop_eq_nil_of_le (by omega)]
   exact ⟨-1,rfl,rfl⟩
 | t+1,i,n+1,hi,hn=>by
   have ih:=ixK_loop hg f hf ha t (i+1) n (by omega) (by omega)
   obtain ⟨p,hp⟩:∃ p,f.getD i (Ty.dflt ty66)=p:=⟨_,rfl⟩
   have hm:p∈f:=by rw [←hp];exact qau (by omega) _
   have hc:M115 p.1 p.2 vs ps ts=some (!(if p.1=3 then knB vs ps ts p.2 else true),vs,ps,ts):=by
    show T115 Ops.std M116 p.1 p.2 vs ps ts some=_
    unfold T115
    simp only [qak,qaa]
    by_cases h3:p.1=3
    ·rw [if_pos h3,if_pos h3,qdd ts hg p.2 (ha p hm h3),ob_s]
    ·rw [if_neg h3,if_neg h3];rfl
   show ∃ r:Int,T162 Ops.std _ f vs ps ts _ some _=_∧_
   unfold T162
   simp only [qae,qag,qaa,qab,hp,show IntKind.wrap IntKind.i64 ((i:Int)+1)=((i+1:Nat):Int) from qaf (by omega)]
   rw [if_pos (by omega),if_pos (by omega),hc,ob_s,qaq (Ty.dflt ty66) (by omega),hp]
   dsimp only
   have hk:knA vs ps ts (p::f.drop (i+1))=((if p.1=3 then knB vs ps ts p.2 else true) && knA vs ps ts (f.drop (i+1))):=rfl
   rw [hk]
   generalize (if p.1=3 then knB vs ps ts p.2 else true)=b
   cases b with
   | true=>simpa using ih
   | false=>exact ⟨(i:Int),rfl,by simp⟩
theorem knownFP_ok (hg:smallG vs ps) (f:List Prt) (hf:f.length≤60) (ha:atmOk f) (hr:M95 f=some true):M67 vs ps ts f=some (knA vs ps ts f):=by
 obtain ⟨r,r1,r2⟩:=ixK_loop ts hg f hf ha f.length 0 1000000 (by omega) (by omega)
 have e1:M162 f vs ps ts=some (r,vs,ps,ts):=by
  show T162 Ops.std M115 f vs ps ts (R162 M115 f vs ps ts 1000000) some none=_
  unfold T162
  exact r1
 have e2:M114 f vs ps ts=some (decide (0≤r),vs,ps,ts):=by
  show T114 Ops.std M162 M115 f vs ps ts some=_
  unfold T114
  rw [e1,ob_s]
  simp only [qan]
 show T67 Ops.std M115 M114 M95 vs ps ts f some=_
 unfold T67
 rw [e2,ob_s,hr,ob_s]
 rw [List.drop_zero] at r2
 rw [r2]
 simp only [cond_true,qas]
 congr 1
 by_cases h:r<0
 ·simp [h]
 ·simp [h]
end
theorem Tells.iff {o:Option Bool} {p q:Prop} (h:Tells o p) (hpq:p↔q):Tells o q:=by
 obtain ⟨b,h1,h2⟩:=h
 exact ⟨b,h1,h2.trans hpq⟩
theorem Tells.f {p:Prop} (h:¬ p):Tells (some false) p:=⟨false,rfl,fun e=>(Bool.noConfusion e),fun q=>absurd q h⟩
theorem Tells.t {p:Prop} (h:p):Tells (some true) p:=⟨true,rfl,fun _=>h,fun _=>rfl⟩
theorem Tells.dec (p:Prop) [Decidable p]:Tells (some (decide p)) p:=⟨_,rfl,decide_eq_true_iff⟩
theorem Tells.same {o o':Option Bool} {p:Prop} (h:Tells o p) (h':Tells o' p):o=o':=by
 obtain ⟨b,h1,h2⟩:=h
 obtain ⟨b',h1',h2'⟩:=h'
 rw [h1,h1']
 congr 1
 cases b<;>cases b'<;>simp_all
abbrev Wrd:=List UInt8
def freshAll (l:List Wrd):Prop:=∀ j,j<l.length→l.getD j (Ty.dflt ty9) ∉ l.take j
def wordsAll (l:List Wrd):Prop:=∀ s∈l,isWordP s=true
theorem qeh {α:Type} {P:Nat→Prop} {l:List α} {i:Nat} (hi:i<l.length):(∀ j,i≤j→j<l.length→P j)↔P i∧∀ j,i+1≤j→j<l.length→P j:=by
 constructor
 ·intro h;exact ⟨h i (Nat.le_refl _) hi,fun j h1 h2=>h j (by omega) h2⟩
 ·intro ⟨h1,h2⟩ j h3 h4
  by_cases e:j=i
  ·rw [e];exact h1
  ·exact h2 j (by omega) h4
theorem wordsAll_iff (l:List Wrd):wordsAll l↔∀ j,j<l.length→isWordP (l.getD j (Ty.dflt ty9))=true:=by
 constructor
 ·intro h j hj;exact h _ (qau hj _)
 ·intro h s hs
  obtain ⟨j,hj,rfl⟩:=List.mem_iff_getElem.1 hs
  have:=h j hj
  rwa [List.getD_eq_getElem?_getD,List.getElem?_eq_getElem hj] at this
def mgS (m:List (Wrd×Bool)) (s:Wrd):Bool:=Option.getD (mget Ty.str m s) (Ty.dflt Ty.bool)
theorem mgS_put:∀ (m:List (Wrd×Bool)) (s u:Wrd),mgS (mput Ty.str m s true) u=(decide (s=u) || mgS m u)
 | [],s,u=>by
  show Option.getD (cond (decide (s=u)) (some true) none) false=_
  by_cases h:s=u
  ·simp [h]
  ·simp [h,mgS,mget];rfl
 | (e,b)::m,s,u=>by
   have ih:=mgS_put m s u
   by_cases h1:e=s
   ·subst h1
    have e1:mput Ty.str ((e,b)::m) e true=(e,true)::m:=by simp [mput,Ty.keq]
    rw [e1]
    show Option.getD (cond (decide (e=u)) (some true) (mget Ty.str m u)) false=(decide (e=u) || Option.getD (cond (decide (e=u)) (some b) (mget Ty.str m u)) false)
    by_cases h:e=u<;>simp [h]
   ·have e1:mput Ty.str ((e,b)::m) s true=(e,b)::mput Ty.str m s true:=by simp [mput,Ty.keq,h1]
    rw [e1]
    show Option.getD (cond (decide (e=u)) (some b) (mget Ty.str (mput Ty.str m s true) u)) false=(decide (s=u) || Option.getD (cond (decide (e=u)) (some b) (mget Ty.str m u)) false)
    by_cases h:e=u
    ·have:¬ s=u:=fun q=>h1 (h.trans q.symm)
     simp [h,this]
    ·simp only [h,decide_false,cond_false];exact ih
noncomputable abbrev nmR (l:List Wrd):=R174 M185 l
theorem qf0 (l:List Wrd) (hl:l.length≤100000):∀ (t i n:Nat) (m:List (Wrd×Bool)),i+t=l.length→t<n→(∀ s,mgS m s=true↔s∈l.take i)→
  Tells (nmR l n (.l0 (l.length:Nat) i m)) (∀ j,i≤j→j<l.length→isWordP (l.getD j (Ty.dflt ty9))=true∧l.getD j (Ty.dflt ty9) ∉ l.take j)
 | t,i,0,m,hi,hn,hm=>by omega
 | 0,i,n+1,m,hi,hn,hm=>by
   show Tells (T174 Ops.std _ l _ some _) _
   unfold T174
   simp only [qae,qaa]
   rw [if_neg (by omega)]
   exact Tells.t fun j h1 h2=>by omega
 | t+1,i,n+1,m,hi,hn,hm=>by
   have hlt:i<l.length:=by omega
   have ih:=qf0 l hl t (i+1) n (mput Ty.str m (l.getD i (Ty.dflt ty9)) true) (by omega) (by omega) (fun s=>by
    rw [mgS_put,List.take_succ_eq_append_getElem hlt,List.mem_append,List.mem_singleton]
    have e:l.getD i (Ty.dflt ty9)=l[i]:=by rw [List.getD_eq_getElem?_getD,List.getElem?_eq_getElem hlt];rfl
    rw [e,Bool.or_eq_true,decide_eq_true_iff,hm s]
    constructor
    ·rintro (h | h)
     ·exact .inr h.symm
     ·exact .inl h
    ·rintro (h | h)
     ·exact .inr h
     ·exact .inl h.symm)
   show Tells (T174 Ops.std _ l _ some _) _
   unfold T174
   simp only [qae,qag,qaa,qab,qcu,ob_s,show IntKind.wrap IntKind.i64 ((i:Int)+1)=((i+1:Nat):Int) from qaf (by omega)]
   rw [if_pos (by omega),if_pos (by omega)]
   cases hw:isWordP (l.getD i (Ty.dflt ty9)) with
   | false=>
     simp only [Bool.not_false,cond_true]
     exact Tells.f fun h=>by have:=(h i (Nat.le_refl _) hlt).1;rw [hw] at this;cases this
   | true=>
     simp only [Bool.not_true,cond_false]
     cases hg:mgS m (l.getD i (Ty.dflt ty9)) with
     | true=>
       have hg':Option.getD (mget Ty.str m (l.getD i (Ty.dflt ty9))) (Ty.dflt Ty.bool)=true:=hg
       rw [hg',cond_true]
       exact Tells.f fun h=>(h i (Nat.le_refl _) hlt).2 ((hm _).1 hg)
     | false=>
       have hg':Option.getD (mget Ty.str m (l.getD i (Ty.dflt ty9))) (Ty.dflt Ty.bool)=false:=hg
       rw [hg',cond_false]
       refine ih.iff ?_
       rw [qeh hlt]
       refine ⟨fun h=>⟨⟨hw,fun h1=>?_⟩,h⟩,fun h=>h.2⟩
       rw [(hm _).2 h1] at hg;cases hg
theorem names_ok (l:List Wrd) (hl:l.length≤100000):Tells (M174 l) (wordsAll l∧freshAll l):=by
 show Tells (T174 Ops.std M185 l (nmR l 1000000) some none) _
 unfold T174
 refine (qf0 l hl l.length 0 1000000 [] (by omega) (by omega) (fun s=>by simp [mgS,mget,Ty.dflt])).iff ?_
 rw [wordsAll_iff]
 exact ⟨fun h=>⟨fun j hj=>(h j (by omega) hj).1,fun j hj=>(h j (by omega) hj).2⟩,fun h j _ hj=>⟨h.1 j hj,h.2 j hj⟩⟩
theorem twice_in (l:List Wrd) (i:Nat) (hi:i<l.length) (hl:l.length≤1000) (C:Prop) (N:Nat) (hc:∀ m,N≤m→Tells (R60 l m (.l0 ((i+1:Nat):Int))) (¬ C)) :
  ∀ (t j n:Nat),j+t=i→N+t<n→Tells (R60 l n (.l1 i j)) (¬ ((∀ k,j≤k→k<i→l.getD i (Ty.dflt ty9)≠l.getD k (Ty.dflt ty9))∧C))
 | t,j,0,hj,hn=>by omega
 | 0,j,n+1,hj,hn=>by
   show Tells (T60 Ops.std l _ some _) _
   unfold T60
   simp only [qae,qaa,show IntKind.wrap IntKind.i64 ((i:Int)+1)=((i+1:Nat):Int) from qaf (by omega)]
   rw [if_neg (by omega)]
   refine (hc n (by omega)).iff ⟨fun h q=>h q.2,fun h q=>h ⟨fun k h1 h2=>by omega,q⟩⟩
 | t+1,j,n+1,hj,hn=>by
   have ih:=twice_in l i hi hl C N hc t (j+1) n (by omega) (by omega)
   show Tells (T60 Ops.std l _ some _) _
   unfold T60
   simp only [qae,qag,qaa,qab,show IntKind.wrap IntKind.i64 ((j:Int)+1)=((j+1:Nat):Int) from qaf (by omega)]
   rw [if_pos (by omega),if_pos (by omega),if_pos (by omega)]
   cases hb:(l.getD i (Ty.dflt ty9) == l.getD j (Ty.dflt ty9)) with
   | true=>exact Tells.t fun h=>h.1 j (Nat.le_refl _) (by omega) (by simpa using hb)
   | false=>
     have hne:l.getD i (Ty.dflt ty9)≠l.getD j (Ty.dflt ty9):=by simpa using hb
     refine ih.iff ⟨fun h q=>h ⟨fun k h1 h2=>q.1 k (by omega) h2,q.2⟩,fun h q=>h ⟨fun k h1 h2=>?_,q.2⟩⟩
     by_cases e:k=j
     ·rw [e];exact hne
     ·exact q.1 k (by omega) h2
theorem fresh_iff (l:List Wrd) (i:Nat) (hi:i<l.length):(l.getD i (Ty.dflt ty9) ∉ l.take i)↔∀ k,0≤k→k<i→l.getD i (Ty.dflt ty9)≠l.getD k (Ty.dflt ty9):=by
 constructor
 ·intro h k _ hk e
  refine h (List.mem_iff_getElem.2 ⟨k,by simp;omega,?_⟩)
  rw [List.getElem_take,e,List.getD_eq_getElem?_getD,List.getElem?_eq_getElem (by omega)];rfl
 ·intro h hm
  obtain ⟨k,hk,e⟩:=List.mem_iff_getElem.1 hm
  rw [List.length_take] at hk
  rw [List.getElem_take] at e
  refine h k (by omega) (by omega) ?_
  rw [←e,List.getD_eq_getElem?_getD,List.getElem?_eq_getElem (by omega)];rfl
theorem twice_out (l:List Wrd) (hl:l.length≤1000):∀ (t i n:Nat),i+t=l.length→1002*t<n→Tells (R60 l n (.l0 i)) (¬ ∀ j,i≤j→j<l.length→l.getD j (Ty.dflt ty9) ∉ l.take j)
 | t,i,0,hi,hn=>by omega
 | 0,i,n+1,hi,hn=>by
   show Tells (T60 Ops.std l _ some _) _
   unfold T60
   simp only [qae,qaa]
   rw [if_neg (by omega)]
   exact Tells.f fun h=>h fun j h1 h2=>by omega
 | t+1,i,n+1,hi,hn=>by
   have ih:=fun m hm=>twice_out l hl t (i+1) m (by omega) hm
   show Tells (T60 Ops.std l _ some _) _
   unfold T60
   simp only [qae,qaa]
   rw [if_pos (by omega)]
   have:=twice_in l i (by omega) hl _ (1002*t+1) (fun m hm=>ih m (by omega)) i 0 n (by omega) (by omega)
   refine this.iff (not_congr ?_)
   rw [qeh (P:=fun j=>l.getD j (Ty.dflt ty9) ∉ l.take j) (show i<l.length by omega),fresh_iff l i (by omega)]
theorem qcz (l:List Wrd) (hl:l.length≤800):Tells (M60 l) (¬ freshAll l):=by
 show Tells (T60 Ops.std l (R60 l 1000000) some none) _
 unfold T60
 refine (twice_out l (by omega) l.length 0 1000000 (by omega) (by omega)).iff (not_congr ⟨fun h j hj=>h j (by omega) hj,fun h j _ hj=>h j hj⟩)
def plL (ps:List Pcs) (s:Wrd):List Wrd:=match ps.find? fun p=>p.1 == s with
 | some p=>p.2
 | none=>[]
theorem plL_cons (p:Pcs) (ps:List Pcs) (s:Wrd):plL (p::ps) s=if p.1 == s then p.2 else plL ps s:=by
 unfold plL
 rw [List.find?_cons]
 cases p.1 == s<;>rfl
theorem plL_len {ps:List Pcs} (h:okLocs ps) (s:Wrd):(plL ps s).length≤100000:=by
 unfold plL
 split
 ·rename_i p hp
  exact h p (List.mem_of_find?_eq_some hp)
 ·simp
section
variable {vs:List Vrb} {ps:List Pcs} {ts:List Trn}
theorem qea (hp:ps.length≤100000) (s:Wrd):∀ (t i n:Nat),i+t=ps.length→t<n→R168 vs ps ts s n (.l0 (ps.length:Nat) i)=some (plL (ps.drop i) s)
 | t,i,0,hi,hn=>by omega
 | 0,i,n+1,hi,hn=>by
   show T168 Ops.std vs ps ts s _ some _=_
   unfold T168
   simp only [qae,qaa]
   rw [if_neg (by omega),List.drop_eq_nil_of_le (by omega)];rfl
 | t+1,i,n+1,hi,hn=>by
   have ih:=qea hp s t (i+1) n (by omega) (by omega)
   show T168 Ops.std vs ps ts s _ some _=_
   unfold T168
   simp only [qae,qag,qaa,qab,show IntKind.wrap IntKind.i64 ((i:Int)+1)=((i+1:Nat):Int) from qaf (by omega)]
   rw [if_pos (by omega),if_pos (by omega),qaq (Ty.dflt ty98) (by omega),plL_cons]
   cases hb:(ps.getD i (Ty.dflt ty98)).1 == s with
   | true=>simp
   | false=>simp only [cond_false];exact ih
theorem placesP_ok (hp:ps.length≤100000) (s:Wrd):M168 vs ps ts s=some (plL ps s):=by
 show T168 Ops.std vs ps ts s (R168 vs ps ts s 1000000) some none=_
 unfold T168
 exact qea hp s ps.length 0 1000000 (by omega) (by omega)
theorem qf1 (hp:ps.length≤100000) (s:Wrd):∀ (t i n:Nat),i+t=ps.length→t<n→∃ r,R105 vs ps ts s n (.l0 i)=some r∧((r = -1∧plL (ps.drop i) s=[])∨∃ k:Nat,k<ps.length∧r=(k:Int)∧plL (ps.drop i) s=(ps.getD k (Ty.dflt ty98)).2)
 | t,i,0,hi,hn=>by omega
 | 0,i,n+1,hi,hn=>by
   show ∃ r,T105 Ops.std vs ps ts s _ some _=some r∧_
   unfold T105
   simp only [qae,qaa]
   rw [if_neg (by omega),List.drop_eq_nil_of_le (by omega)]
   exact ⟨_,rfl,.inl ⟨rfl,rfl⟩⟩
 | t+1,i,n+1,hi,hn=>by
   have ih:=qf1 hp s t (i+1) n (by omega) (by omega)
   show ∃ r,T105 Ops.std vs ps ts s _ some _=some r∧_
   unfold T105
   simp only [qae,qag,qaa,qab,show IntKind.wrap IntKind.i64 ((i:Int)+1)=((i+1:Nat):Int) from qaf (by omega)]
   rw [if_pos (by omega),if_pos (by omega),qaq (Ty.dflt ty98) (by omega),plL_cons]
   cases hb:(ps.getD i (Ty.dflt ty98)).1 == s with
   | true=>exact ⟨_,rfl,.inr ⟨i,by omega,rfl,by simp⟩⟩
   | false=>simpa using ih
theorem qfa (hl:okLocs ps) (p:Nat) (hp:p<ps.length) (s:Wrd):∀ (t i n:Nat),i+t=(ps.getD p (Ty.dflt ty98)).2.length→t<n→∃ r,R108 vs ps ts p s n (.l0 i)=some r∧(0≤r↔s∈(ps.getD p (Ty.dflt ty98)).2.drop i)
 | t,i,0,hi,hn=>by omega
 | 0,i,n+1,hi,hn=>by
   show ∃ r,T108 Ops.std vs ps ts p s _ some _=some r∧_
   unfold T108
   simp only [qae,qag,qaa,qab]
   rw [if_pos (by omega),if_neg (by omega),List.drop_eq_nil_of_le (by omega)]
   exact ⟨_,rfl,by simp⟩
 | t+1,i,n+1,hi,hn=>by
   have ih:=qfa hl p hp s t (i+1) n (by omega) (by omega)
   have hg:=hl.get p hp
   show ∃ r,T108 Ops.std vs ps ts p s _ some _=some r∧_
   unfold T108
   simp only [qae,qag,qaa,qab,show IntKind.wrap IntKind.i64 ((i:Int)+1)=((i+1:Nat):Int) from qaf (by omega)]
   rw [if_pos (by omega),if_pos (by omega),if_pos (by omega),if_pos (by omega),qaq (Ty.dflt Ty.str) (by omega)]
   cases hb:((ps.getD p (Ty.dflt ty98)).2.getD i (Ty.dflt Ty.str) == s) with
   | true=>
     have:(ps.getD p (Ty.dflt ty98)).2.getD i (Ty.dflt Ty.str)=s:=by simpa using hb
     exact ⟨_,rfl,⟨fun _=>by rw [this];exact List.mem_cons_self,fun _=>by omega⟩⟩
   | false=>
     have hne:¬ s=(ps.getD p (Ty.dflt ty98)).2.getD i (Ty.dflt Ty.str):=fun e=>by rw [←e] at hb;simp at hb
     obtain ⟨r,r1,r2⟩:=ih
     exact ⟨r,r1,r2.trans ⟨fun h=>List.mem_cons_of_mem _ h,fun h=>(List.mem_cons.1 h).resolve_left hne⟩⟩
theorem placeR_ok (hg:smallG vs ps) (a:Wrd):∃ q,M105 vs ps ts a=some q∧∀ s,∃ r,M108 vs ps ts q s=some r∧(0≤r↔s∈plL ps a):=by
 obtain ⟨q,q1,q2⟩:=qf1 (vs:=vs) (ts:=ts) hg.p a ps.length 0 1000000 (by omega) (by have:=hg.p;omega)
 refine ⟨q,?_,fun s=>?_⟩
 ·show T105 Ops.std vs ps ts a (R105 vs ps ts a 1000000) some none=_
  unfold T105
  exact q1
 ·show ∃ r,T108 Ops.std vs ps ts q s (R108 vs ps ts q s 1000000) some none=some r∧_
  unfold T108
  simp only [qae,qaa,List.drop_zero] at q2 ⊢
  rcases q2 with ⟨rfl,e⟩ | ⟨k,hk,rfl,e⟩
  ·rw [if_pos (by decide),e];exact ⟨_,rfl,by simp⟩
  ·rw [if_neg (by omega),e]
   have:=qfa (vs:=vs) (ts:=ts) hg.l k hk s _ 0 1000000 (Nat.zero_add _) (by have:=hg.l.get k hk;omega)
   rw [List.drop_zero] at this
   exact this
theorem qf2 (L:List Wrd) (hL:L.length≤100000) (s:Wrd):∀ (t i n:Nat),i+t=L.length→t<n→∃ r,R167 L s n (.l0 (L.length:Nat) i)=some r∧(0≤r↔s∈L.drop i)
 | t,i,0,hi,hn=>by omega
 | 0,i,n+1,hi,hn=>by
   show ∃ r,T167 Ops.std L s _ some _=some r∧_
   unfold T167
   simp only [qae,qaa]
   rw [if_neg (by omega),List.drop_eq_nil_of_le (by omega)]
   exact ⟨_,rfl,by simp⟩
 | t+1,i,n+1,hi,hn=>by
   have ih:=qf2 L hL s t (i+1) n (by omega) (by omega)
   show ∃ r,T167 Ops.std L s _ some _=some r∧_
   unfold T167
   simp only [qae,qag,qaa,qab,show IntKind.wrap IntKind.i64 ((i:Int)+1)=((i+1:Nat):Int) from qaf (by omega)]
   rw [if_pos (by omega),if_pos (by omega),qaq (Ty.dflt Ty.str) (by omega)]
   cases hb:(s == L.getD i (Ty.dflt Ty.str)) with
   | true=>
     have:s=L.getD i (Ty.dflt Ty.str):=by simpa using hb
     exact ⟨_,rfl,⟨fun _=>by rw [←this];exact List.mem_cons_self,fun _=>by omega⟩⟩
   | false=>
     have hne:¬ s=L.getD i (Ty.dflt Ty.str):=by simpa using hb
     obtain ⟨r,r1,r2⟩:=ih
     exact ⟨r,r1,r2.trans ⟨fun h=>List.mem_cons_of_mem _ h,fun h=>(List.mem_cons.1 h).resolve_left hne⟩⟩
theorem qfb (L:List Wrd) (hL:L.length≤100000) (s:Wrd):Tells (M171 L s) (s∈L):=by
 obtain ⟨r,r1,r2⟩:=qf2 L hL s L.length 0 1000000 (by omega) (by omega)
 have e:M167 L s=some r:=by
  show T167 Ops.std L s (R167 L s 1000000) some none=_
  unfold T167
  exact r1
 show Tells (T171 Ops.std M167 L s some) _
 unfold T171
 rw [e,ob_s,qan]
 exact (Tells.dec _).iff r2
theorem varR_loop (hv:vs.length≤100000) (s:Wrd):∀ (t i n:Nat),i+t=vs.length→t<n→∃ r,R109 vs ps ts s n (.l0 i)=some r∧(0≤r↔∃ v∈vs.drop i,v.1=s)
 | t,i,0,hi,hn=>by omega
 | 0,i,n+1,hi,hn=>by
   show ∃ r,T109 Ops.std vs ps ts s _ some _=some r∧_
   unfold T109
   simp only [qae,qaa]
   rw [if_neg (by omega),List.drop_eq_nil_of_le (by omega)]
   exact ⟨_,rfl,by simp⟩
 | t+1,i,n+1,hi,hn=>by
   have ih:=varR_loop hv s t (i+1) n (by omega) (by omega)
   show ∃ r,T109 Ops.std vs ps ts s _ some _=some r∧_
   unfold T109
   simp only [qae,qag,qaa,qab,show IntKind.wrap IntKind.i64 ((i:Int)+1)=((i+1:Nat):Int) from qaf (by omega)]
   rw [if_pos (by omega),if_pos (by omega),qaq (Ty.dflt ty94) (by omega)]
   cases hb:((vs.getD i (Ty.dflt ty94)).1 == s) with
   | true=>exact ⟨_,rfl,⟨fun _=>⟨_,List.mem_cons_self,by simpa using hb⟩,fun _=>by omega⟩⟩
   | false=>
     have hne:¬ (vs.getD i (Ty.dflt ty94)).1=s:=by simpa using hb
     obtain ⟨r,r1,r2⟩:=ih
     refine ⟨r,r1,r2.trans ⟨fun ⟨v,h1,h2⟩=>⟨v,List.mem_cons_of_mem _ h1,h2⟩,fun ⟨v,h1,h2⟩=>?_⟩⟩
     rcases List.mem_cons.1 h1 with e | h
     ·exact absurd (e ▸ h2) hne
     ·exact ⟨v,h,h2⟩
theorem varR_ok (hv:vs.length≤100000) (s:Wrd):∃ r,M109 vs ps ts s=some r∧(0≤r↔∃ v∈vs,v.1=s):=by
 show ∃ r,T109 Ops.std vs ps ts s (R109 vs ps ts s 1000000) some none=some r∧_
 unfold T109
 have:=varR_loop (ps:=ps) (ts:=ts) hv s vs.length 0 1000000 (by omega) (by omega)
 rwa [List.drop_zero] at this
noncomputable abbrev ixM (vs:List Vrb):=R218 M170 vs
theorem ixM_loop (hv:vs.length≤100000) (s:Wrd) (e:List Trm):∀ (t i n:Nat),i+t=vs.length→t<n→∃ r:Int,ixM vs s e n (.l0 (vs.length:Nat) i s e)=some (r,s,e)∧(0≤r↔∃ v∈vs.drop i,v.1=s)
 | t,i,0,hi,hn=>by omega
 | 0,i,n+1,hi,hn=>by
   show ∃ r:Int,T218 Ops.std _ vs s e _ some _=_∧_
   unfold T218
   simp only [qae,qaa]
   rw [if_neg (by omega),List.drop_eq_nil_of_le (by omega)]
   exact ⟨-1,rfl,by simp⟩
 | t+1,i,n+1,hi,hn=>by
   have ih:=ixM_loop hv s e t (i+1) n (by omega) (by omega)
   have hc:∀ v:Vrb,M170 v.1 v.2.1 v.2.2.1 v.2.2.2 s e=some (v.1 == s,s,e):=fun v=>rfl
   show ∃ r:Int,T218 Ops.std _ vs s e _ some _=_∧_
   unfold T218
   simp only [qae,qag,qaa,qab,show IntKind.wrap IntKind.i64 ((i:Int)+1)=((i+1:Nat):Int) from qaf (by omega)]
   rw [if_pos (by omega),if_pos (by omega),hc,ob_s,qaq (Ty.dflt ty94) (by omega)]
   dsimp only
   cases hb:((vs.getD i (Ty.dflt ty94)).1 == s) with
   | true=>exact ⟨(i:Int),rfl,⟨fun _=>⟨_,List.mem_cons_self,by simpa using hb⟩,fun _=>by omega⟩⟩
   | false=>
     have hne:¬ (vs.getD i (Ty.dflt ty94)).1=s:=by simpa using hb
     obtain ⟨r,r1,r2⟩:=ih
     refine ⟨r,r1,r2.trans ⟨fun ⟨v,h1,h2⟩=>⟨v,List.mem_cons_of_mem _ h1,h2⟩,fun ⟨v,h1,h2⟩=>?_⟩⟩
     rcases List.mem_cons.1 h1 with e | h
     ·exact absurd (e ▸ h2) hne
     ·exact ⟨v,h,h2⟩
theorem hasVar_ok (hv:vs.length≤100000) (s:Wrd) (e:List Trm):∃ b,M169 vs s e=some (b,s,e)∧(b=true↔∃ v∈vs,v.1=s):=by
 obtain ⟨r,r1,r2⟩:=ixM_loop hv s e vs.length 0 1000000 (by omega) (by omega)
 have e1:M218 vs s e=some (r,s,e):=by
  show T218 Ops.std M170 vs s e (ixM vs s e 1000000) some none=_
  unfold T218
  exact r1
 refine ⟨decide (0≤r),?_,by rw [decide_eq_true_iff];rwa [List.drop_zero] at r2⟩
 show T169 Ops.std M218 M170 vs s e some=_
 unfold T169
 rw [e1,ob_s]
 simp only [qan]
def syncB (s:Wrd):Bool:=if s=[] then true else isWordP (s.take (s.length-1)) && ((s.drop (s.length-1) == [33]) || (s.drop (s.length-1) == [63]))
theorem last_byte (s:Wrd) (hs:s≠[]) (k:UInt8):(s.drop (s.length-1) == [k])=(s.getD (s.length-1) 0 == k):=by
 have h0:0<s.length:=List.length_pos_iff.2 hs
 rw [qaq 0 (show s.length-1<s.length by omega),List.drop_eq_nil_of_le (by omega)]
 cases h:(s.getD (s.length-1) 0 == k)<;>simp_all
theorem sync_ok (s:Wrd) (hs:s.length<900000):M172 s=some (syncB s):=by
 show T172 Ops.std M185 s some=_
 unfold T172 syncB
 by_cases h:s=[]
 ·subst h;rfl
 ·have hb:(s == mt UInt8)=false:=by simpa [mt] using h
  have h0:0<s.length:=List.length_pos_iff.2 h
  have hw:IntKind.wrap IntKind.i64 ((s.length:Int)-1)=((s.length-1:Nat):Int):=by rw [wrap64 (by omega) (by omega)];omega
  rw [if_neg h,hb]
  simp only [qag,qak,qaa,cond_false,hw,qab,qcu,ob_s,List.drop_zero,last_byte s h]
  rw [if_pos (by omega),if_pos (by omega)]
  have e:∀ (x:UInt8) (k:Nat) (hk:k<256),decide (((UInt8.toNat x:Nat):Int)=(k:Int))=(x == UInt8.ofNat k):=fun x k hk=>by
   rw [Bool.eq_iff_iff,decide_eq_true_iff,beq_iff_eq]
   constructor
   ·intro h;rw [←UInt8.toNat_inj,UInt8.toNat_ofNat'];omega
   ·intro h;rw [h,UInt8.toNat_ofNat'];omega
  cases isWordP (s.take (s.length-1)) with
  | false=>rfl
  | true=>
    simp only [cond_true,Bool.true_and]
    have e1:=e (s.getD (s.length-1) 0) 33 (by omega)
    have e2:=e (s.getD (s.length-1) 0) 63 (by omega)
    rw [←qaa]
    have f1:decide (((UInt8.toNat (s.getD (s.length-1) 0):Nat):Int)=33)=(s.getD (s.length-1) 0 == 33):=e1
    have f2:decide (((UInt8.toNat (s.getD (s.length-1) 0):Nat):Int)=63)=(s.getD (s.length-1) 0 == 63):=e2
    rw [f1,f2]
    cases (s.getD (s.length-1) 0 == 33)<;>rfl
theorem channel_b (s:Wrd) (hs:s.length<900000):∃ c,M106 s=some (c,syncB s):=by
 show ∃ c,T106 Ops.std M58 s some=some (c,syncB s)
 unfold T106 syncB
 by_cases h:s=[]
 ·subst h;exact ⟨_,rfl⟩
 ·have hb:(s == mt UInt8)=false:=by simpa [mt] using h
  have h0:0<s.length:=List.length_pos_iff.2 h
  have hw:IntKind.wrap IntKind.i64 ((s.length:Int)-1)=((s.length-1:Nat):Int):=by rw [wrap64 (by omega) (by omega)];omega
  rw [if_neg h,hb]
  simp only [qag,qaa,cond_false,hw,qab]
  rw [if_pos (by omega),if_pos (by omega),qaw _ (by simp;omega),ob_s]
  rw [List.drop_zero,List.take_length]
  cases isWordP (s.take (s.length-1)) with
  | false=>exact ⟨_,rfl⟩
  | true=>
    cases (s.drop (s.length-1) == [33]) with
    | true=>exact ⟨_,rfl⟩
    | false=>exact ⟨_,rfl⟩
end
def effOk (vs:List Vrb) (ps:List Pcs) (ts:List Trn) (x:Eff):Prop:=(∃ v∈vs,v.1=x.1)∧knB vs ps ts x.2=true
def trOk (vs:List Vrb) (ps:List Pcs) (ts:List Trn) (t:Trn):Prop:=
 (1≤t.1∧t.1≤999)∧syncB t.2.2.2.2.1=true∧t.2.2.1∈plL ps t.2.1∧t.2.2.2.1∈plL ps t.2.1∧knB vs ps ts t.2.2.2.2.2.1=true∧t.2.2.2.2.2.2.length≤3∧∀ x∈t.2.2.2.2.2.2,effOk vs ps ts x
theorem qb6 {α:Type} {P:α→Prop} {l:List α} {i:Nat} (d:α) (hi:i<l.length):(∀ x∈l.drop i,P x)↔P (l.getD i d)∧∀ x∈l.drop (i+1),P x:=by
 rw [qaq d hi];exact List.forall_mem_cons
section
variable {vs:List Vrb} {ps:List Pcs} {ts:List Trn} (hM:smallM vs ps ts)
include hM
theorem rtT_loop (id:Int) (a b c d:List UInt8) (g:List Trm) (ef:List Eff) (hl:ef.length≤3) (hk:∀ x∈ef,okEf x):∀ (t i n:Nat),i+t=ef.length→t<n→Tells (rtR vs ps ts id a b c d g ef n (.l0 i)) (∀ x∈ef.drop i,effOk vs ps ts x)
 | t,i,0,hi,hn=>by omega
 | 0,i,n+1,hi,hn=>by
   show Tells (T61 Ops.std _ _ _ _ _ _ vs ps ts id a b c d g ef _ some _) _
   unfold T61
   simp only [qae,qaa]
   rw [if_neg (by omega),List.drop_eq_nil_of_le (by omega)]
   exact Tells.t (by simp)
 | t+1,i,n+1,hi,hn=>by
   have ih:=rtT_loop id a b c d g ef hl hk t (i+1) n (by omega) (by omega)
   have hx:=hk _ (qau (show i<ef.length by omega) (Ty.dflt ty157))
   show Tells (T61 Ops.std _ _ _ _ _ _ vs ps ts id a b c d g ef _ some _) _
   unfold T61
   rw [qb6 (Ty.dflt ty157) (show i<ef.length by omega)]
   obtain ⟨r,r1,r2⟩:=varR_ok (ps:=ps) (ts:=ts) hM.g.v (ef.getD i (Ty.dflt ty157)).1
   obtain ⟨q,q1,_⟩:=qbn ts hM.g (ef.getD i (Ty.dflt ty157)).2 hx.short
   have qb:knB vs ps ts (ef.getD i (Ty.dflt ty157)).2=q:=by unfold knB;rw [q1];rfl
   simp only [qae,qag,qaa,qab,r1,q1,ob_s,show IntKind.wrap IntKind.i64 ((i:Int)+1)=((i+1:Nat):Int) from qaf (by omega)]
   rw [if_pos (by omega),if_pos (by omega)]
   by_cases hr:r<0
   ·rw [if_pos hr];exact Tells.f fun h=>by have:=r2.2 h.1.1;omega
   ·rw [if_neg hr,if_pos (by omega)]
    cases hq:q with
    | false=>exact Tells.f fun h=>by have:=h.1.2;rw [qb,hq] at this;cases this
    | true=>exact ih.iff ⟨fun h=>⟨⟨r2.1 (by omega),by rw [qb,hq]⟩,h⟩,fun h=>h.2⟩
theorem rtT_ok (t:Trn) (ht:okTr t):Tells (M61 vs ps ts t.1 t.2.1 t.2.2.1 t.2.2.2.1 t.2.2.2.2.1 t.2.2.2.2.2.1 t.2.2.2.2.2.2) (trOk vs ps ts t):=by
 obtain ⟨id,a,b,c,d,g,ef⟩:=t
 obtain ⟨h1,h2,h3,h4,h5,h6,h7⟩:=ht
 show Tells (T61 Ops.std M105 M106 M107 M108 M62 M109 vs ps ts id a b c d g ef (rtR vs ps ts id a b c d g ef 1000000) some none) _
 unfold T61 trOk
 obtain ⟨p,p1,p2⟩:=placeR_ok (ts:=ts) hM.g a
 obtain ⟨ch,c1⟩:=channel_b d (by simp only at h4;omega)
 obtain ⟨x,x1,x2⟩:=p2 b
 obtain ⟨y,y1,y2⟩:=p2 c
 obtain ⟨q,q1,_⟩:=qbn ts hM.g g h5
 have qb:knB vs ps ts g=q:=by unfold knB;rw [q1];rfl
 simp only [p1,c1,id_ok,x1,y1,q1,ob_s,qae,qaa,qas]
 by_cases hid:1≤id∧id≤999
 ·rw [if_neg (fun h=>h hid)]
  cases hs:syncB d with
  | false=>exact Tells.f fun h=>by have:=h.2.1;cases this
  | true=>
  simp only [Bool.not_true,cond_false]
  by_cases hx:x<0
  ·rw [if_pos hx];exact Tells.f fun h=>by have:=x2.2 h.2.2.1;omega
  ·rw [if_neg hx]
   by_cases hy:y<0
   ·rw [if_pos hy];exact Tells.f fun h=>by have:=y2.2 h.2.2.2.1;omega
   ·rw [if_neg hy,qb]
    cases hq:q with
    | false=>exact Tells.f fun h=>by have:=h.2.2.2.2.1;cases this
    | true=>
    simp only [Bool.not_true,cond_false]
    by_cases h3:(3:Int)<((ef.length:Nat):Int)
    ·rw [if_pos h3];exact Tells.f fun h=>by have:=h.2.2.2.2.2.1;omega
    ·rw [if_neg h3]
     refine (rtT_loop hM id a b c d g ef (by omega) h7 ef.length 0 1000000 (by omega) (by omega)).iff ?_
     rw [List.drop_zero]
     exact ⟨fun h=>⟨hid,by simp,x2.1 (by omega),y2.1 (by omega),by simp,by omega,h⟩,fun h=>h.2.2.2.2.2.2⟩
 ·rw [if_pos hid];exact Tells.f fun h=>hid h.1
noncomputable abbrev mvP (vs:List Vrb) (ps:List Pcs) (ts:List Trn) (id:Int) (a b c d:List UInt8) (g:List Trm) (ef:List Eff):=R136 M168 M170 M169 M116 M171 M172 vs ps ts id a b c d g ef
theorem mvT_loop (id:Int) (a b c d:List UInt8) (g:List Trm) (ef:List Eff) (hd:d.length≤60000) (hg5:shortE g) (hl:ef.length≤100000) (hk:∀ x∈ef,okEf x):∀ (t i n:Nat),i+t=ef.length→t<n→Tells (mvP vs ps ts id a b c d g ef n (.l0 (plL ps a) (ef.length:Nat) i)) ((∀ x∈ef.drop i,effOk vs ps ts x)∧(1≤id∧id≤999)∧b∈plL ps a∧c∈plL ps a∧syncB d=true∧knB vs ps ts g=true∧ef.length≤3)
 | t,i,0,hi,hn=>by omega
 | 0,i,n+1,hi,hn=>by
   show Tells (T136 Ops.std _ _ _ _ _ _ vs ps ts id a b c d g ef _ some _) _
   unfold T136
   simp only [qae,qan,qaa]
   rw [if_neg (by omega),List.drop_eq_nil_of_le (by omega)]
   have hpl:=plL_len hM.g.l a
   obtain ⟨x,x1,x2⟩:=qfb (plL ps a) hpl b
   obtain ⟨y,y1,y2⟩:=qfb (plL ps a) hpl c
   rw [x1,ob_s,y1,ob_s,sync_ok d (by omega),ob_s,qdd ts hM.g g hg5,ob_s]
   by_cases c1:1≤id
   ·rw [if_pos c1]
    by_cases c2:id≤999
    ·rw [if_pos c2]
     cases hx:x with
     | false=>exact Tells.f fun h=>by have:=x2.2 h.2.2.1;rw [hx] at this;cases this
     | true=>
     simp only [cond_true]
     cases hy:y with
     | false=>exact Tells.f fun h=>by have:=y2.2 h.2.2.2.1;rw [hy] at this;cases this
     | true=>
     simp only [cond_true]
     cases hs:syncB d with
     | false=>exact Tells.f fun h=>by have:=h.2.2.2.2.1;cases this
     | true=>
     simp only [cond_true]
     cases hq:knB vs ps ts g with
     | false=>exact Tells.f fun h=>by have:=h.2.2.2.2.2.1;cases this
     | true=>
     simp only [cond_true]
     exact (Tells.dec _).iff ⟨fun h=>⟨by simp,⟨c1,c2⟩,x2.1 hx,y2.1 hy,by simp,by simp,by omega⟩,fun h=>by have:=h.2.2.2.2.2.2;omega⟩
    ·rw [if_neg c2];exact Tells.f fun h=>c2 h.2.1.2
   ·rw [if_neg c1];exact Tells.f fun h=>c1 h.2.1.1
 | t+1,i,n+1,hi,hn=>by
   have ih:=mvT_loop id a b c d g ef hd hg5 hl hk t (i+1) n (by omega) (by omega)
   have hx:=hk _ (qau (show i<ef.length by omega) (Ty.dflt ty157))
   show Tells (T136 Ops.std _ _ _ _ _ _ vs ps ts id a b c d g ef _ some _) _
   unfold T136
   rw [qb6 (Ty.dflt ty157) (show i<ef.length by omega)]
   obtain ⟨r,r1,r2⟩:=hasVar_ok hM.g.v (ef.getD i (Ty.dflt ty157)).1 (ef.getD i (Ty.dflt ty157)).2
   simp only [qae,qag,qaa,qab,r1,ob_s,qdd ts hM.g _ hx.short,show IntKind.wrap IntKind.i64 ((i:Int)+1)=((i+1:Nat):Int) from qaf (by omega)]
   rw [if_pos (by omega),if_pos (by omega)]
   cases hr:r with
   | false=>exact Tells.f fun h=>by have:=r2.2 h.1.1.1;rw [hr] at this;cases this
   | true=>
     simp only [Bool.not_true,cond_false]
     cases hq:knB vs ps ts (ef.getD i (Ty.dflt ty157)).2 with
     | false=>exact Tells.f fun h=>by have:=h.1.1.2;rw [hq] at this;cases this
     | true=>exact ih.iff ⟨fun h=>⟨⟨⟨r2.1 hr,hq⟩,h.1⟩,h.2⟩,fun h=>⟨h.1.2,h.2⟩⟩
theorem mvT_ok (t:Trn) (ht:okTr t):Tells (M136 vs ps ts t.1 t.2.1 t.2.2.1 t.2.2.2.1 t.2.2.2.2.1 t.2.2.2.2.2.1 t.2.2.2.2.2.2) (trOk vs ps ts t):=by
 obtain ⟨id,a,b,c,d,g,ef⟩:=t
 obtain ⟨h1,h2,h3,h4,h5,h6,h7⟩:=ht
 show Tells (T136 Ops.std M168 M170 M169 M116 M171 M172 vs ps ts id a b c d g ef (mvP vs ps ts id a b c d g ef 1000000) some none) _
 unfold T136 trOk
 rw [placesP_ok hM.g.p,ob_s]
 refine (mvT_loop hM id a b c d g ef h4 h5 h6 h7 ef.length 0 1000000 (by omega) (by simp only at h6;omega)).iff ?_
 rw [List.drop_zero]
 exact ⟨fun ⟨e1,e2,e3,e4,e5,e6,e7⟩=>⟨e2,e5,e3,e4,e6,e7,e1⟩,fun ⟨e2,e5,e3,e4,e6,e7,e1⟩=>⟨e1,e2,e3,e4,e5,e6,e7⟩⟩
def allTr (vs:List Vrb) (ps:List Pcs) (ts:List Trn) (i:Nat):Prop:=∀ j,i≤j→j<ts.length→trOk vs ps ts (ts.getD j (Ty.dflt ty103))∧(0<j→(ts.getD (j-1) (Ty.dflt ty103)).1<(ts.getD j (Ty.dflt ty103)).1)
def procOk (p:Pcs):Prop:=isWordP p.1=true∧1≤p.2.length∧p.2.length≤6∧freshAll p.2∧wordsAll p.2
def finOk (vs:List Vrb) (ps:List Pcs) (ts:List Trn) (vn pn:List Wrd):Prop:=vn.length≤4∧1≤pn.length∧pn.length≤3∧ts.length≤16∧freshAll vn∧freshAll pn∧allTr vs ps ts 0
theorem rmT_l3 (h16:ts.length≤16):∀ (t i n:Nat),i+t=ts.length→2*t<n→Tells (rmR vs ps ts n (.l3 i)) (allTr vs ps ts i)
 | t,i,0,hi,hn=>by omega
 | 0,i,n+1,hi,hn=>by
   show Tells (T18 Ops.std _ _ _ _ vs ps ts _ some _) _
   unfold T18
   simp only [qae,qaa]
   rw [if_neg (by omega)]
   exact Tells.t fun j h1 h2=>by omega
 | t+1,i,n+1,hi,hn=>by
   obtain ⟨m,rfl⟩:∃ m,n=m+1:=⟨n-1,by omega⟩
   have hlt:i<ts.length:=by omega
   have ih:=rmT_l3 h16 t (i+1) m (by omega) (by omega)
   have h25:rmR vs ps ts (m+1) (.l1025 i)=rmR vs ps ts m (.l3 ((i+1:Nat):Int)):=by
    show T18 Ops.std _ _ _ _ vs ps ts _ some _=_
    unfold T18
    simp only [show IntKind.wrap IntKind.i64 ((i:Int)+1)=((i+1:Nat):Int) from qaf (by omega)]
   obtain ⟨r,r1,r2⟩:=rtT_ok hM (ts.getD i (Ty.dflt ty103)) (hM.t _ (qau (by omega) _))
   show Tells (T18 Ops.std _ _ _ _ vs ps ts _ some _) _
   unfold T18
   simp only [qae,qan,qag,qaa,qab,r1,ob_s]
   rw [if_pos (by omega),if_pos (by omega)]
   unfold allTr
   rw [qeh (P:=fun j=>trOk vs ps ts (ts.getD j (Ty.dflt ty103))∧(0<j→(ts.getD (j-1) (Ty.dflt ty103)).1<(ts.getD j (Ty.dflt ty103)).1)) hlt]
   cases hr:r with
   | false=>exact Tells.f fun h=>by have:=r2.2 h.1.1;rw [hr] at this;cases this
   | true=>
   simp only [Bool.not_true,cond_false]
   by_cases h0:(0:Int)<(i:Int)
   ·rw [if_pos h0,if_pos (by omega),show IntKind.wrap IntKind.i64 ((i:Int)-1)=((i-1:Nat):Int) by rw [wrap64 (by omega) (by omega)];omega,if_pos (by omega)]
    simp only [qab]
    split
    ·rename_i hle;exact Tells.f fun h=>by have:=h.1.2 (by omega);omega
    ·rename_i hle
     show Tells (rmR vs ps ts (m+1) (.l1025 i)) _
     rw [h25]
     exact ih.iff ⟨fun h=>⟨⟨r2.1 hr,fun _=>by omega⟩,h⟩,fun h=>h.2⟩
   ·rw [if_neg h0]
    show Tells (rmR vs ps ts (m+1) (.l1025 i)) _
    rw [h25]
    exact ih.iff ⟨fun h=>⟨⟨r2.1 hr,fun _=>by omega⟩,h⟩,fun h=>h.2⟩
omit hM in
theorem rmT_l2 (C:Prop) (i:Nat) (hi:i<100000) (vn pn:List (List UInt8)) (nm:List UInt8) (locs:List (List UInt8)) (hl:locs.length≤6) (hk:okL 60000 locs) (N:Nat) (hc:∀ m,N≤m→Tells (rmR vs ps ts m (.l1 ((i+1:Nat):Int) vn pn)) C) :
  ∀ (t j n:Nat),j+t=locs.length→N+t<n→Tells (rmR vs ps ts n (.l2 i j vn pn nm locs)) ((∀ s∈locs.drop j,isWordP s=true)∧C)
 | t,j,0,hj,hn=>by omega
 | 0,j,n+1,hj,hn=>by
   show Tells (T18 Ops.std _ _ _ _ vs ps ts _ some _) _
   unfold T18
   simp only [qae,qaa,show IntKind.wrap IntKind.i64 ((i:Int)+1)=((i+1:Nat):Int) from qaf (by omega)]
   rw [if_neg (by omega),List.drop_eq_nil_of_le (by omega)]
   exact (hc n (by omega)).iff ⟨fun h=>⟨by simp,h⟩,fun h=>h.2⟩
 | t+1,j,n+1,hj,hn=>by
   have ih:=rmT_l2 C i hi vn pn nm locs hl hk N hc t (j+1) n (by omega) (by omega)
   show Tells (T18 Ops.std _ _ _ _ vs ps ts _ some _) _
   unfold T18
   have hlen:=hk.get j
   rw [qb6 (Ty.dflt ty9) (show j<locs.length by omega)]
   simp only [qae,qag,qaa,qab,show IntKind.wrap IntKind.i64 ((j:Int)+1)=((j+1:Nat):Int) from qaf (by omega)]
   rw [if_pos (by omega),if_pos (by omega),qaw _ (by have:(locs.getD j (Ty.dflt ty9)).length≤60000:=hlen;omega),ob_s]
   cases hw:isWordP (locs.getD j (Ty.dflt ty9)) with
   | false=>exact Tells.f fun h=>by have:=h.1.1;cases this
   | true=>exact ih.iff ⟨fun h=>⟨⟨rfl,h.1⟩,h.2⟩,fun h=>⟨h.1.2,h.2⟩⟩
theorem rmT_l1 (vn:List Wrd):∀ (t i n:Nat) (pn:List Wrd),i+t=ps.length→12*t+100<n→pn=(ps.take i).map (·.1)→Tells (rmR vs ps ts n (.l1 i vn pn)) ((∀ p∈ps.drop i,procOk p)∧finOk vs ps ts vn (ps.map (·.1)))
 | t,i,0,pn,hi,hn,h2=>by omega
 | 0,i,n+1,pn,hi,hn,h2=>by
   have hpn:pn=ps.map (·.1):=by rw [h2,List.take_of_length_le (by omega)]
   show Tells (T18 Ops.std _ _ _ _ vs ps ts _ some _) _
   unfold T18
   simp only [qae,qaa]
   rw [if_neg (by omega),List.drop_eq_nil_of_le (by omega),←hpn]
   by_cases c1:(4:Int)<((vn.length:Nat):Int)
   ·rw [if_pos c1];exact Tells.f fun h=>by have:=h.2.1;omega
   ·rw [if_neg c1]
    by_cases c2:((pn.length:Nat):Int)<1
    ·rw [if_pos c2];exact Tells.f fun h=>by have:=h.2.2.1;omega
    ·rw [if_neg c2]
     by_cases c3:(3:Int)<((pn.length:Nat):Int)
     ·rw [if_pos c3];exact Tells.f fun h=>by have:=h.2.2.2.1;omega
     ·rw [if_neg c3]
      by_cases c4:(16:Int)<((ts.length:Nat):Int)
      ·rw [if_pos c4];exact Tells.f fun h=>by have:=h.2.2.2.2.1;omega
      ·rw [if_neg c4]
       obtain ⟨x,x1,x2⟩:=qcz vn (by omega)
       obtain ⟨y,y1,y2⟩:=qcz pn (by omega)
       rw [x1,ob_s]
       cases hx:x with
       | true=>exact Tells.f fun h=>x2.1 hx h.2.2.2.2.2.1
       | false=>
       simp only [cond_false]
       rw [y1,ob_s]
       cases hy:y with
       | true=>exact Tells.f fun h=>y2.1 hy h.2.2.2.2.2.2.1
       | false=>
       simp only [cond_false]
       obtain ⟨m,rfl⟩:∃ m,n=m+1:=⟨n-1,by omega⟩
       show Tells (rmR vs ps ts m (.l3 ((0:Nat):Int))) _
       have f1:freshAll vn:=Classical.byContradiction fun h=>by have:=x2.2 h;rw [hx] at this;cases this
       have f2:freshAll pn:=Classical.byContradiction fun h=>by have:=y2.2 h;rw [hy] at this;cases this
       refine (rmT_l3 hM (by omega) ts.length 0 m (by omega) (by omega)).iff ⟨fun h=>⟨by simp,by omega,by omega,by omega,by omega,f1,f2,h⟩,fun h=>h.2.2.2.2.2.2.2⟩
 | t+1,i,n+1,pn,hi,hn,h2=>by
   have hpl:=hM.pl
   have hlt:i<ps.length:=by omega
   have hx:=hM.p _ (qau hlt (Ty.dflt ty98))
   have hpnl:pn.length=i:=by rw [h2];simp;omega
   show Tells (T18 Ops.std _ _ _ _ vs ps ts _ some _) _
   unfold T18
   rw [qb6 (Ty.dflt ty98) hlt]
   obtain ⟨p,hp⟩:∃ p,ps.getD i (Ty.dflt ty98)=p:=⟨_,rfl⟩
   rw [hp] at hx
   simp only [qae,qag,qam,qaa,qab,mt,List.length_cons,List.length_nil,hp]
   rw [if_pos (by omega),if_pos (by omega),if_pos (by omega),qaw _ (by have:=hx.1;omega),ob_s]
   cases hw:isWordP p.1 with
   | false=>exact Tells.f fun h=>by have:=h.1.1.1;first | (rw [hw] at this;cases this) | cases this
   | true=>
   simp only [Bool.not_true,cond_false]
   by_cases c1:((p.2.length:Nat):Int)<1
   ·rw [if_pos c1];exact Tells.f fun h=>by have:=h.1.1.2.1;omega
   ·rw [if_neg c1]
    by_cases c2:(6:Int)<((p.2.length:Nat):Int)
    ·rw [if_pos c2];exact Tells.f fun h=>by have:=h.1.1.2.2.1;omega
    ·rw [if_neg c2]
     obtain ⟨y,y1,y2⟩:=qcz p.2 (by omega)
     rw [y1,ob_s]
     cases hy:y with
     | true=>exact Tells.f fun h=>y2.1 hy h.1.1.2.2.2.1
     | false=>
     simp only [cond_false]
     have f2:freshAll p.2:=Classical.byContradiction fun h=>by have:=y2.2 h;rw [hy] at this;cases this
     have e:pn++[p.1]=(ps.take (i+1)).map (·.1):=by
      rw [h2,List.take_succ_eq_append_getElem hlt,List.map_append,←hp,List.getD_eq_getElem?_getD,List.getElem?_eq_getElem hlt];rfl
     obtain ⟨m,rfl⟩:∃ m,n=m+1:=⟨n-1,by omega⟩
     show Tells (rmR vs ps ts m (.l2 i ((0:Nat):Int) vn (pn++[p.1]) p.1 p.2)) _
     refine (rmT_l2 _ i (by omega) vn (pn++[p.1]) p.1 p.2 (by omega) hx.2.2 (12*t+101) (fun m hm=>rmT_l1 vn t (i+1) m (pn++[p.1]) (by omega) (by omega) e) p.2.length 0 m (by omega) (by omega)).iff ?_
     rw [List.drop_zero]
     exact ⟨fun h=>⟨⟨⟨hw,by omega,by omega,f2,h.1⟩,h.2.1⟩,h.2.2⟩,fun h=>⟨h.1.1.2.2.2.2,h.1.2,h.2⟩⟩
theorem rmT_l0:∀ (t i n:Nat) (vn:List Wrd),i+t=vs.length→2*t+70000<n→vn=(vs.take i).map (·.1)→Tells (rmR vs ps ts n (.l0 i vn)) ((∀ v∈vs.drop i,isWordP v.1=true∧okVar v)∧(∀ p∈ps,procOk p)∧finOk vs ps ts (vs.map (·.1)) (ps.map (·.1)))
 | t,i,0,vn,hi,hn,h2=>by omega
 | 0,i,n+1,vn,hi,hn,h2=>by
   have hvn:vn=vs.map (·.1):=by rw [h2,List.take_of_length_le (by omega)]
   have hpl:=hM.pl
   show Tells (T18 Ops.std _ _ _ _ vs ps ts _ some _) _
   unfold T18
   simp only [qae,qaa]
   rw [if_neg (by omega),List.drop_eq_nil_of_le (by omega),←hvn]
   have:=rmT_l1 hM vn ps.length 0 n [] (by omega) (by omega) (by simp)
   rw [List.drop_zero] at this
   exact this.iff ⟨fun h=>⟨by simp,h⟩,fun h=>h.2⟩
 | t+1,i,n+1,vn,hi,hn,h2=>by
   have hvl:=hM.vl
   have hlt:i<vs.length:=by omega
   have hx:=hM.v _ (qau hlt (Ty.dflt ty94))
   have hvnl:vn.length=i:=by rw [h2];simp;omega
   show Tells (T18 Ops.std _ _ _ _ vs ps ts _ some _) _
   unfold T18
   rw [qb6 (Ty.dflt ty94) hlt]
   obtain ⟨v,hv⟩:∃ v,vs.getD i (Ty.dflt ty94)=v:=⟨_,rfl⟩
   rw [hv] at hx
   simp only [qae,qag,qam,qaa,qab,mt,List.length_cons,List.length_nil,hv,w999_ok,ob_s,qas]
   rw [if_pos (by omega),if_pos (by omega),if_pos (by omega),qaw _ (by omega),ob_s]
   cases hw:isWordP v.1 with
   | false=>exact Tells.f fun h=>by have:=h.1.1.1;first | (rw [hw] at this;cases this) | cases this
   | true=>
   simp only [Bool.not_true,cond_false]
   by_cases c1:v.2.2.2<v.2.1
   ·rw [if_pos c1];exact Tells.f fun h=>by have:=h.1.1.2.1;omega
   rw [if_neg c1]
   by_cases c2:v.2.2.1<v.2.2.2
   ·rw [if_pos c2];exact Tells.f fun h=>by have:=h.1.1.2.2.1;omega
   rw [if_neg c2]
   by_cases c3:-999≤v.2.1∧v.2.1≤999
   ·rw [if_neg (fun h=>h c3)]
    by_cases c4:-999≤v.2.2.1∧v.2.2.1≤999
    ·rw [if_neg (fun h=>h c4)]
     have e:vn++[v.1]=(vs.take (i+1)).map (·.1):=by
      rw [h2,List.take_succ_eq_append_getElem hlt,List.map_append,←hv,List.getD_eq_getElem?_getD,List.getElem?_eq_getElem hlt];rfl
     obtain ⟨m,rfl⟩:∃ m,n=m+1:=⟨n-1,by omega⟩
     have h4:rmR vs ps ts (m+1) (.l1004 i (vn++[v.1]))=rmR vs ps ts m (.l0 ((i+1:Nat):Int) (vn++[v.1])):=by
      show T18 Ops.std _ _ _ _ vs ps ts _ some _=_
      unfold T18
      simp only [show IntKind.wrap IntKind.i64 ((i:Int)+1)=((i+1:Nat):Int) from qaf (by omega)]
     show Tells (rmR vs ps ts (m+1) (.l1004 i (vn++[v.1]))) _
     rw [h4]
     exact (rmT_l0 t (i+1) m (vn++[v.1]) (by omega) (by omega) e).iff ⟨fun h=>⟨⟨⟨(by first | exact hw | trivial),by omega,by omega,by omega,by omega⟩,h.1⟩,h.2⟩,fun h=>⟨h.1.2,h.2⟩⟩
    ·rw [if_pos c4];exact Tells.f fun h=>by have:=h.1.1.2;unfold okVar at this;omega
   ·rw [if_pos c3];exact Tells.f fun h=>by have:=h.1.1.2;unfold okVar at this;omega
def rightM (vs:List Vrb) (ps:List Pcs) (ts:List Trn):Prop:=(∀ v∈vs,isWordP v.1=true∧okVar v)∧(∀ p∈ps,procOk p)∧finOk vs ps ts (vs.map (·.1)) (ps.map (·.1))
theorem rightR_tells:Tells (M18 vs ps ts) (rightM vs ps ts):=by
 have:=hM.vl
 show Tells (T18 Ops.std M58 M59 M60 M61 vs ps ts (rmR vs ps ts 1000000) some none) _
 unfold T18
 have:=rmT_l0 hM vs.length 0 1000000 [] (by omega) (by omega) (by simp)
 rw [List.drop_zero] at this
 exact this
omit hM in
theorem bounded_ok (v:Vrb):Tells (M173 v.1 v.2.1 v.2.2.1 v.2.2.2) (okVar v):=by
 show Tells (T173 Ops.std v.1 v.2.1 v.2.2.1 v.2.2.2 some) _
 unfold T173
 simp only [qan,qaa]
 by_cases c1:-999≤v.2.1
 ·rw [if_pos c1]
  by_cases c2:v.2.1≤v.2.2.2
  ·rw [if_pos c2]
   by_cases c3:v.2.2.2≤v.2.2.1
   ·rw [if_pos c3]
    exact (Tells.dec _).iff ⟨fun h=>⟨c2,c3,c1,h⟩,fun h=>h.2.2.2⟩
   ·rw [if_neg c3];exact Tells.f fun h=>c3 h.2.1
  ·rw [if_neg c2];exact Tells.f fun h=>c2 h.1
 ·rw [if_neg c1];exact Tells.f fun h=>c1 h.2.2.1
noncomputable abbrev ndP (vs:List Vrb) (ps:List Pcs) (ts:List Trn):=R137 M173 M174 vs ps ts
def procOkP (p:Pcs):Prop:=1≤p.2.length∧p.2.length≤6∧wordsAll p.2∧freshAll p.2
theorem ndT_l1 (vn:List Wrd) (hvn:vn.length≤100000):∀ (t i n:Nat) (pn:List Wrd),i+t=ps.length→t<n→pn=(ps.take i).map (·.1)→Tells (ndP vs ps ts n (.l1 (ps.length:Nat) i vn pn)) ((∀ p∈ps.drop i,procOkP p)∧vn.length≤4∧(wordsAll vn∧freshAll vn)∧1≤(ps.map (·.1)).length∧(ps.map (·.1)).length≤3∧wordsAll (ps.map (·.1))∧freshAll (ps.map (·.1)))
 | t,i,0,pn,hi,hn,h2=>by omega
 | 0,i,n+1,pn,hi,hn,h2=>by
   have hpl:=hM.pl
   have hpn:pn=ps.map (·.1):=by rw [h2,List.take_of_length_le (by omega)]
   have hpnl:pn.length=ps.length:=by rw [hpn];simp
   show Tells (T137 Ops.std _ _ vs ps ts _ some _) _
   unfold T137
   simp only [qae,qan,qaa]
   rw [if_neg (by omega),List.drop_eq_nil_of_le (by omega),←hpn]
   obtain ⟨x,x1,x2⟩:=names_ok vn hvn
   obtain ⟨y,y1,y2⟩:=names_ok pn (by omega)
   rw [x1,ob_s,y1,ob_s]
   by_cases c1:((vn.length:Nat):Int)≤4
   ·rw [if_pos c1]
    cases hx:x with
    | false=>exact Tells.f fun h=>by have:=x2.2 h.2.2.1;rw [hx] at this;cases this
    | true=>
    simp only [cond_true]
    by_cases c2:(1:Int)≤((pn.length:Nat):Int)
    ·rw [if_pos c2]
     by_cases c3:((pn.length:Nat):Int)≤3
     ·rw [if_pos c3]
      exact ⟨y,rfl,y2.trans ⟨fun h=>⟨by simp,by omega,x2.1 hx,by omega,by omega,h⟩,fun h=>h.2.2.2.2.2⟩⟩
     ·rw [if_neg c3];exact Tells.f fun h=>by have:=h.2.2.2.2.1;omega
    ·rw [if_neg c2];exact Tells.f fun h=>by have:=h.2.2.2.1;omega
   ·rw [if_neg c1];exact Tells.f fun h=>by have:=h.2.1;omega
 | t+1,i,n+1,pn,hi,hn,h2=>by
   have hpl:=hM.pl
   have hlt:i<ps.length:=by omega
   have hx:=hM.p _ (qau hlt (Ty.dflt ty98))
   have hpnl:pn.length=i:=by rw [h2];simp;omega
   show Tells (T137 Ops.std _ _ vs ps ts _ some _) _
   unfold T137
   rw [qb6 (Ty.dflt ty98) hlt]
   obtain ⟨p,hp⟩:∃ p,ps.getD i (Ty.dflt ty98)=p:=⟨_,rfl⟩
   rw [hp] at hx
   simp only [qae,qag,qam,qaa,qab,mt,List.length_cons,List.length_nil,hp,show IntKind.wrap IntKind.i64 ((i:Int)+1)=((i+1:Nat):Int) from qaf (by omega)]
   rw [if_pos (by omega),if_pos (by omega)]
   by_cases c1:((p.2.length:Nat):Int)<1
   ·rw [if_pos c1];exact Tells.f fun h=>by have:=h.1.1.1;omega
   ·rw [if_neg c1]
    by_cases c2:(6:Int)<((p.2.length:Nat):Int)
    ·rw [if_pos c2];exact Tells.f fun h=>by have:=h.1.1.2.1;omega
    ·rw [if_neg c2]
     obtain ⟨y,y1,y2⟩:=names_ok p.2 (by omega)
     rw [y1,ob_s]
     cases hy:y with
     | false=>exact Tells.f fun h=>by have:=y2.2 h.1.1.2.2;rw [hy] at this;cases this
     | true=>
     simp only [Bool.not_true,cond_false]
     rw [if_pos (by omega)]
     have e:pn++[p.1]=(ps.take (i+1)).map (·.1):=by
      rw [h2,List.take_succ_eq_append_getElem hlt,List.map_append,←hp,List.getD_eq_getElem?_getD,List.getElem?_eq_getElem hlt];rfl
     exact (ndT_l1 vn hvn t (i+1) n (pn++[p.1]) (by omega) (by omega) e).iff ⟨fun h=>⟨⟨⟨by omega,by omega,y2.1 hy⟩,h.1⟩,h.2⟩,fun h=>⟨h.1.2,h.2⟩⟩
def namedOk (vs:List Vrb) (ps:List Pcs):Prop:=(∀ p∈ps,procOkP p)∧(vs.map (·.1)).length≤4∧(wordsAll (vs.map (·.1))∧freshAll (vs.map (·.1)))∧1≤(ps.map (·.1)).length∧(ps.map (·.1)).length≤3∧wordsAll (ps.map (·.1))∧freshAll (ps.map (·.1))
theorem ndT_l0:∀ (t i n:Nat) (vn:List Wrd),i+t=vs.length→t+6000<n→vn=(vs.take i).map (·.1)→Tells (ndP vs ps ts n (.l0 (vs.length:Nat) i vn)) ((∀ v∈vs.drop i,okVar v)∧namedOk vs ps)
 | t,i,0,vn,hi,hn,h2=>by omega
 | 0,i,n+1,vn,hi,hn,h2=>by
   have hpl:=hM.pl
   have hvl:=hM.vl
   have hvn:vn=vs.map (·.1):=by rw [h2,List.take_of_length_le (by omega)]
   have hvnl:vn.length=vs.length:=by rw [hvn];simp
   show Tells (T137 Ops.std _ _ vs ps ts _ some _) _
   unfold T137
   simp only [qae,qaa]
   rw [if_neg (by omega),List.drop_eq_nil_of_le (by omega)]
   unfold namedOk
   rw [←hvn]
   have:=ndT_l1 hM vn (by omega) ps.length 0 n [] (by omega) (by omega) (by simp)
   rw [List.drop_zero] at this
   exact this.iff ⟨fun h=>⟨by simp,h⟩,fun h=>h.2⟩
 | t+1,i,n+1,vn,hi,hn,h2=>by
   have hvl:=hM.vl
   have hlt:i<vs.length:=by omega
   have hvnl:vn.length=i:=by rw [h2];simp;omega
   show Tells (T137 Ops.std _ _ vs ps ts _ some _) _
   unfold T137
   rw [qb6 (Ty.dflt ty94) hlt]
   obtain ⟨v,hv⟩:∃ v,vs.getD i (Ty.dflt ty94)=v:=⟨_,rfl⟩
   obtain ⟨b,b1,b2⟩:=bounded_ok v
   simp only [qae,qag,qam,qaa,qab,mt,List.length_cons,List.length_nil,hv,b1,ob_s,show IntKind.wrap IntKind.i64 ((i:Int)+1)=((i+1:Nat):Int) from qaf (by omega)]
   rw [if_pos (by omega),if_pos (by omega)]
   cases hb:b with
   | false=>exact Tells.f fun h=>by have:=b2.2 h.1.1;rw [hb] at this;cases this
   | true=>
     simp only [Bool.not_true,cond_false]
     rw [if_pos (by omega)]
     have e:vn++[v.1]=(vs.take (i+1)).map (·.1):=by
      rw [h2,List.take_succ_eq_append_getElem hlt,List.map_append,←hv,List.getD_eq_getElem?_getD,List.getElem?_eq_getElem hlt];rfl
     exact (ndT_l0 t (i+1) n (vn++[v.1]) (by omega) (by omega) e).iff ⟨fun h=>⟨⟨b2.1 hb,h.1⟩,h.2⟩,fun h=>⟨h.1.2,h.2⟩⟩
theorem named_ok:Tells (M137 vs ps ts) ((∀ v∈vs,okVar v)∧namedOk vs ps):=by
 have:=hM.vl
 show Tells (T137 Ops.std M173 M174 vs ps ts (ndP vs ps ts 1000000) some none) _
 unfold T137
 have:=ndT_l0 hM vs.length 0 1000000 [] (by omega) (by omega) (by simp)
 rw [List.drop_zero] at this
 exact this
noncomputable abbrev mrP (vs:List Vrb) (ps:List Pcs) (ts:List Trn):=R77 M136 M137 vs ps ts
theorem mrT_loop:∀ (t i n:Nat),i+t=ts.length→t<n→Tells (mrP vs ps ts n (.l0 (ts.length:Nat) i)) (allTr vs ps ts i∧((∀ v∈vs,okVar v)∧namedOk vs ps)∧ts.length≤16)
 | t,i,0,hi,hn=>by omega
 | 0,i,n+1,hi,hn=>by
   show Tells (T77 Ops.std _ _ vs ps ts _ some _) _
   unfold T77
   simp only [qae,qan,qaa]
   obtain ⟨x,x1,x2⟩:=named_ok hM
   rw [if_neg (by omega),x1,ob_s]
   cases hx:x with
   | false=>exact Tells.f fun h=>by have:=x2.2 h.2.1;rw [hx] at this;cases this
   | true=>
     simp only [cond_true]
     exact (Tells.dec _).iff ⟨fun h=>⟨fun j h1 h2=>by omega,x2.1 hx,by omega⟩,fun h=>by have:=h.2.2;omega⟩
 | t+1,i,n+1,hi,hn=>by
   have htl:=hM.tl
   have hlt:i<ts.length:=by omega
   have ih:=mrT_loop t (i+1) n (by omega) (by omega)
   obtain ⟨r,r1,r2⟩:=mvT_ok hM (ts.getD i (Ty.dflt ty103)) (hM.t _ (qau (by omega) _))
   show Tells (T77 Ops.std _ _ vs ps ts _ some _) _
   unfold T77
   simp only [qae,qan,qag,qaa,qab,r1,ob_s,show IntKind.wrap IntKind.i64 ((i:Int)+1)=((i+1:Nat):Int) from qaf (by omega)]
   rw [if_pos (by omega),if_pos (by omega)]
   unfold allTr
   rw [qeh (P:=fun j=>trOk vs ps ts (ts.getD j (Ty.dflt ty103))∧(0<j→(ts.getD (j-1) (Ty.dflt ty103)).1<(ts.getD j (Ty.dflt ty103)).1)) hlt]
   cases hr:r with
   | false=>exact Tells.f fun h=>by have:=r2.2 h.1.1.1;rw [hr] at this;cases this
   | true=>
   simp only [Bool.not_true,cond_false]
   by_cases h0:(0:Int)<(i:Int)
   ·rw [if_pos h0,show IntKind.wrap IntKind.i64 ((i:Int)-1)=((i-1:Nat):Int) by rw [wrap64 (by omega) (by omega)];omega,if_pos (by omega)]
    simp only [qab]
    split
    ·rename_i hle;exact Tells.f fun h=>by have:=h.1.1.2 (by omega);omega
    ·rename_i hle
     exact ih.iff ⟨fun h=>⟨⟨⟨r2.1 hr,fun _=>by omega⟩,h.1⟩,h.2⟩,fun h=>⟨h.1.2,h.2⟩⟩
   ·rw [if_neg h0]
    exact ih.iff ⟨fun h=>⟨⟨⟨r2.1 hr,fun _=>by omega⟩,h.1⟩,h.2⟩,fun h=>⟨h.1.2,h.2⟩⟩
theorem qde:M77 vs ps ts=M18 vs ps ts:=by
 have htl:=hM.tl
 have h1:Tells (M77 vs ps ts) (allTr vs ps ts 0∧((∀ v∈vs,okVar v)∧namedOk vs ps)∧ts.length≤16):=by
  show Tells (T77 Ops.std M136 M137 vs ps ts (mrP vs ps ts 1000000) some none) _
  unfold T77
  exact mrT_loop hM ts.length 0 1000000 (by omega) (by omega)
 refine (h1.iff ?_).same (rightR_tells hM)
 unfold namedOk rightM finOk
 constructor
 ·rintro ⟨a1,⟨a2,a3,a4,⟨a5,a6⟩,a7,a8,a9,a10⟩,a11⟩
  refine ⟨fun v hv=>⟨a5 _ (List.mem_map.2 ⟨v,hv,rfl⟩),a2 v hv⟩,fun p hp=>?_,a4,a7,a8,a11,a6,a10,a1⟩
  obtain ⟨b1,b2,b3,b4⟩:=a3 p hp
  exact ⟨a9 _ (List.mem_map.2 ⟨p,hp,rfl⟩),b1,b2,b4,b3⟩
 ·rintro ⟨a1,a2,a3,a4,a5,a6,a7,a8,a9⟩
  refine ⟨a9,⟨fun v hv=>(a1 v hv).2,fun p hp=>?_,a3,⟨fun s hs=>?_,a7⟩,a4,a5,fun s hs=>?_,a8⟩,a6⟩
  ·obtain ⟨b1,b2,b3,b4,b5⟩:=a2 p hp
   exact ⟨b2,b3,b5,b4⟩
  ·obtain ⟨v,hv,rfl⟩:=List.mem_map.1 hs
   exact (a1 v hv).1
  ·obtain ⟨p,hp,rfl⟩:=List.mem_map.1 hs
   exact (a2 p hp).1
end
theorem qbo {n:Nat} {o:Nat→Bool} {out:List Bool} (ho:out.length=n) (h:∀ j,j<n→fnB out j=o j):out=rowL n o:=qe7 ho h
theorem qbc {n i:Nat} {o:Nat→Bool} {out:List Bool} (hi:i<n) (ho:out.length=n) (h:∀ j,j<i→fnB out j=o j) {v:Bool} (hv:v=o i):(out.set i v).length=n∧∀ j,j<i+1→fnB (out.set i v) j=o j:=by
 refine ⟨by simp [ho],fun j hj=>?_⟩
 rw [qdx _ _ (by omega)]
 by_cases e:j=i
 ·rw [if_pos e,hv,e]
 ·rw [if_neg e];exact h j (by omega)
section
variable (vs:List Vrb) (ps:List Pcs) (ts:List Trn) (st:List Stp) (back:Nat) (hn:st.length≤100)
noncomputable abbrev eaR1 (vs:List Vrb) (ps:List Pcs) (ts:List Trn) (st:List Stp) (back:Nat):=R125 M126 vs ps ts st (back:Int)
include hn in
theorem ea1_loop (g:Nat→Bool) (hc:∀ i,i<st.length→M126 (i:Int)=some (g i)):∀ (t i n:Nat) (out:List Bool),i+t=st.length→t<n→out.length=st.length→(∀ j,j<i→fnB out j=g j)→eaR1 vs ps ts st back n (.l0 (st.length:Nat) i out)=some (rowL st.length g)
 | t,i,0,out,hi,hn',ho,h=>by omega
 | 0,i,n+1,out,hi,hn',ho,h=>by
   show T125 Ops.std _ vs ps ts st _ _ some _=_
   unfold T125
   simp only [qae,qaa]
   rw [if_neg (by omega),qbo ho (fun j hj=>h j (by omega))]
 | t+1,i,n+1,out,hi,hn',ho,h=>by
   obtain ⟨l1,l2⟩:=qbc (show i<st.length by omega) ho h rfl
   have ih:=ea1_loop g hc t (i+1) n (out.set i (g i)) (by omega) (by omega) l1 l2
   show T125 Ops.std _ vs ps ts st _ _ some _=_
   unfold T125
   simp only [qae,qag,qaa,qab,hc i (by omega),ob_s,show IntKind.wrap IntKind.i64 ((i:Int)+1)=((i+1:Nat):Int) from qaf (by omega)]
   rw [if_pos (by omega),if_pos (by omega)]
   exact ih
include hn in
theorem ea1_ok (g:Nat→Bool) (hc:∀ i,i<st.length→M126 (i:Int)=some (g i)):M125 vs ps ts st (back:Int)=some (rowL st.length g):=by
 show T125 Ops.std M126 vs ps ts st (back:Int) (eaR1 vs ps ts st back 1000000) some none=_
 unfold T125
 have h0n:(0:Int)≤(st.length:Int):=by omega
 have hlim:st.length*1≤140737488355328:=by omega
 simp only [qak,qan,qam,qab,decide_true,h0n,hlim,cond_true,List.length_replicate]
 exact ea1_loop vs ps ts st back hn g hc st.length 0 1000000 _ (by omega) (by omega) (by simp) (fun j hj=>by omega)
noncomputable abbrev eaR2 (vs:List Vrb) (ps:List Pcs) (ts:List Trn) (st:List Stp) (back:Nat):=R219 M127 vs ps ts st (back:Int)
include hn in
theorem ea2_loop (g:Nat→Bool) (hc:∀ i,i<st.length→M127 (i:Int)=some (g i)):∀ (t i n:Nat) (out:List Bool),i+t=st.length→t<n→out.length=st.length→(∀ j,j<i→fnB out j=g j)→eaR2 vs ps ts st back n (.l0 (st.length:Nat) i out)=some (rowL st.length g)
 | t,i,0,out,hi,hn',ho,h=>by omega
 | 0,i,n+1,out,hi,hn',ho,h=>by
   show T219 Ops.std _ vs ps ts st _ _ some _=_
   unfold T219
   simp only [qae,qaa]
   rw [if_neg (by omega),qbo ho (fun j hj=>h j (by omega))]
 | t+1,i,n+1,out,hi,hn',ho,h=>by
   obtain ⟨l1,l2⟩:=qbc (show i<st.length by omega) ho h rfl
   have ih:=ea2_loop g hc t (i+1) n (out.set i (g i)) (by omega) (by omega) l1 l2
   show T219 Ops.std _ vs ps ts st _ _ some _=_
   unfold T219
   simp only [qae,qag,qaa,qab,hc i (by omega),ob_s,show IntKind.wrap IntKind.i64 ((i:Int)+1)=((i+1:Nat):Int) from qaf (by omega)]
   rw [if_pos (by omega),if_pos (by omega)]
   exact ih
include hn in
theorem ea2_ok (g:Nat→Bool) (hc:∀ i,i<st.length→M127 (i:Int)=some (g i)):M219 vs ps ts st (back:Int)=some (rowL st.length g):=by
 show T219 Ops.std M127 vs ps ts st (back:Int) (eaR2 vs ps ts st back 1000000) some none=_
 unfold T219
 have h0n:(0:Int)≤(st.length:Int):=by omega
 have hlim:st.length*1≤140737488355328:=by omega
 simp only [qak,qan,qam,qab,decide_true,h0n,hlim,cond_true,List.length_replicate]
 exact ea2_loop vs ps ts st back hn g hc st.length 0 1000000 _ (by omega) (by omega) (by simp) (fun j hj=>by omega)
noncomputable abbrev eaR3 (vs:List Vrb) (ps:List Pcs) (ts:List Trn) (st:List Stp) (back:Nat) (K:List (List Bool)):=R220 M129 vs ps ts st (back:Int) K
include hn in
theorem ea3_loop (K:List (List Bool)) (g:Nat→Bool) (hc:∀ i,i<st.length→M129 (i:Int) K=some (g i,K)):∀ (t i n:Nat) (out:List Bool),i+t=st.length→t<n→out.length=st.length→(∀ j,j<i→fnB out j=g j)→eaR3 vs ps ts st back K n (.l0 (st.length:Nat) i out K)=some ((rowL st.length g),K)
 | t,i,0,out,hi,hn',ho,h=>by omega
 | 0,i,n+1,out,hi,hn',ho,h=>by
   show T220 Ops.std _ vs ps ts st _ _ _ some _=_
   unfold T220
   simp only [qae,qaa]
   rw [if_neg (by omega),qbo ho (fun j hj=>h j (by omega))]
 | t+1,i,n+1,out,hi,hn',ho,h=>by
   obtain ⟨l1,l2⟩:=qbc (show i<st.length by omega) ho h rfl
   have ih:=ea3_loop K g hc t (i+1) n (out.set i (g i)) (by omega) (by omega) l1 l2
   show T220 Ops.std _ vs ps ts st _ _ _ some _=_
   unfold T220
   simp only [qae,qag,qaa,qab,hc i (by omega),ob_s,show IntKind.wrap IntKind.i64 ((i:Int)+1)=((i+1:Nat):Int) from qaf (by omega)]
   rw [if_pos (by omega),if_pos (by omega)]
   exact ih
include hn in
theorem ea3_ok (K:List (List Bool)) (g:Nat→Bool) (hc:∀ i,i<st.length→M129 (i:Int) K=some (g i,K)):M220 vs ps ts st (back:Int) K=some ((rowL st.length g),K):=by
 show T220 Ops.std M129 vs ps ts st (back:Int) K (eaR3 vs ps ts st back K 1000000) some none=_
 unfold T220
 have h0n:(0:Int)≤(st.length:Int):=by omega
 have hlim:st.length*1≤140737488355328:=by omega
 simp only [qak,qan,qam,qab,decide_true,h0n,hlim,cond_true,List.length_replicate]
 exact ea3_loop vs ps ts st back hn K g hc st.length 0 1000000 _ (by omega) (by omega) (by simp) (fun j hj=>by omega)
noncomputable abbrev eaR4 (vs:List Vrb) (ps:List Pcs) (ts:List Trn) (st:List Stp) (back:Nat) (K:List (List Bool)):=R221 M130 vs ps ts st (back:Int) K
include hn in
theorem ea4_loop (K:List (List Bool)) (g:Nat→Bool) (hc:∀ i,i<st.length→M130 (i:Int) K=some (g i,K)):∀ (t i n:Nat) (out:List Bool),i+t=st.length→t<n→out.length=st.length→(∀ j,j<i→fnB out j=g j)→eaR4 vs ps ts st back K n (.l0 (st.length:Nat) i out K)=some ((rowL st.length g),K)
 | t,i,0,out,hi,hn',ho,h=>by omega
 | 0,i,n+1,out,hi,hn',ho,h=>by
   show T221 Ops.std _ vs ps ts st _ _ _ some _=_
   unfold T221
   simp only [qae,qaa]
   rw [if_neg (by omega),qbo ho (fun j hj=>h j (by omega))]
 | t+1,i,n+1,out,hi,hn',ho,h=>by
   obtain ⟨l1,l2⟩:=qbc (show i<st.length by omega) ho h rfl
   have ih:=ea4_loop K g hc t (i+1) n (out.set i (g i)) (by omega) (by omega) l1 l2
   show T221 Ops.std _ vs ps ts st _ _ _ some _=_
   unfold T221
   simp only [qae,qag,qaa,qab,hc i (by omega),ob_s,show IntKind.wrap IntKind.i64 ((i:Int)+1)=((i+1:Nat):Int) from qaf (by omega)]
   rw [if_pos (by omega),if_pos (by omega)]
   exact ih
include hn in
theorem ea4_ok (K:List (List Bool)) (g:Nat→Bool) (hc:∀ i,i<st.length→M130 (i:Int) K=some (g i,K)):M221 vs ps ts st (back:Int) K=some ((rowL st.length g),K):=by
 show T221 Ops.std M130 vs ps ts st (back:Int) K (eaR4 vs ps ts st back K 1000000) some none=_
 unfold T221
 have h0n:(0:Int)≤(st.length:Int):=by omega
 have hlim:st.length*1≤140737488355328:=by omega
 simp only [qak,qan,qam,qab,decide_true,h0n,hlim,cond_true,List.length_replicate]
 exact ea4_loop vs ps ts st back hn K g hc st.length 0 1000000 _ (by omega) (by omega) (by simp) (fun j hj=>by omega)
noncomputable abbrev eaR5 (vs:List Vrb) (ps:List Pcs) (ts:List Trn) (st:List Stp) (back:Nat) (K:List (List Bool)):=R222 M131 vs ps ts st (back:Int) K
include hn in
theorem ea5_loop (K:List (List Bool)) (g:Nat→Bool) (hc:∀ i,i<st.length→M131 (i:Int) K=some (g i,K)):∀ (t i n:Nat) (out:List Bool),i+t=st.length→t<n→out.length=st.length→(∀ j,j<i→fnB out j=g j)→eaR5 vs ps ts st back K n (.l0 (st.length:Nat) i out K)=some ((rowL st.length g),K)
 | t,i,0,out,hi,hn',ho,h=>by omega
 | 0,i,n+1,out,hi,hn',ho,h=>by
   show T222 Ops.std _ vs ps ts st _ _ _ some _=_
   unfold T222
   simp only [qae,qaa]
   rw [if_neg (by omega),qbo ho (fun j hj=>h j (by omega))]
 | t+1,i,n+1,out,hi,hn',ho,h=>by
   obtain ⟨l1,l2⟩:=qbc (show i<st.length by omega) ho h rfl
   have ih:=ea5_loop K g hc t (i+1) n (out.set i (g i)) (by omega) (by omega) l1 l2
   show T222 Ops.std _ vs ps ts st _ _ _ some _=_
   unfold T222
   simp only [qae,qag,qaa,qab,hc i (by omega),ob_s,show IntKind.wrap IntKind.i64 ((i:Int)+1)=((i+1:Nat):Int) from qaf (by omega)]
   rw [if_pos (by omega),if_pos (by omega)]
   exact ih
include hn in
theorem ea5_ok (K:List (List Bool)) (g:Nat→Bool) (hc:∀ i,i<st.length→M131 (i:Int) K=some (g i,K)):M222 vs ps ts st (back:Int) K=some ((rowL st.length g),K):=by
 show T222 Ops.std M131 vs ps ts st (back:Int) K (eaR5 vs ps ts st back K 1000000) some none=_
 unfold T222
 have h0n:(0:Int)≤(st.length:Int):=by omega
 have hlim:st.length*1≤140737488355328:=by omega
 simp only [qak,qan,qam,qab,decide_true,h0n,hlim,cond_true,List.length_replicate]
 exact ea5_loop vs ps ts st back hn K g hc st.length 0 1000000 _ (by omega) (by omega) (by simp) (fun j hj=>by omega)
noncomputable abbrev eaR6 (vs:List Vrb) (ps:List Pcs) (ts:List Trn) (st:List Stp) (back:Nat) (K:List (List Bool)):=R223 M132 vs ps ts st (back:Int) K
include hn in
theorem ea6_loop (K:List (List Bool)) (g:Nat→Bool) (hc:∀ i,i<st.length→M132 (i:Int) K=some (g i,K)):∀ (t i n:Nat) (out:List Bool),i+t=st.length→t<n→out.length=st.length→(∀ j,j<i→fnB out j=g j)→eaR6 vs ps ts st back K n (.l0 (st.length:Nat) i out K)=some ((rowL st.length g),K)
 | t,i,0,out,hi,hn',ho,h=>by omega
 | 0,i,n+1,out,hi,hn',ho,h=>by
   show T223 Ops.std _ vs ps ts st _ _ _ some _=_
   unfold T223
   simp only [qae,qaa]
   rw [if_neg (by omega),qbo ho (fun j hj=>h j (by omega))]
 | t+1,i,n+1,out,hi,hn',ho,h=>by
   obtain ⟨l1,l2⟩:=qbc (show i<st.length by omega) ho h rfl
   have ih:=ea6_loop K g hc t (i+1) n (out.set i (g i)) (by omega) (by omega) l1 l2
   show T223 Ops.std _ vs ps ts st _ _ _ some _=_
   unfold T223
   simp only [qae,qag,qaa,qab,hc i (by omega),ob_s,show IntKind.wrap IntKind.i64 ((i:Int)+1)=((i+1:Nat):Int) from qaf (by omega)]
   rw [if_pos (by omega),if_pos (by omega)]
   exact ih
include hn in
theorem ea6_ok (K:List (List Bool)) (g:Nat→Bool) (hc:∀ i,i<st.length→M132 (i:Int) K=some (g i,K)):M223 vs ps ts st (back:Int) K=some ((rowL st.length g),K):=by
 show T223 Ops.std M132 vs ps ts st (back:Int) K (eaR6 vs ps ts st back K 1000000) some none=_
 unfold T223
 have h0n:(0:Int)≤(st.length:Int):=by omega
 have hlim:st.length*1≤140737488355328:=by omega
 simp only [qak,qan,qam,qab,decide_true,h0n,hlim,cond_true,List.length_replicate]
 exact ea6_loop vs ps ts st back hn K g hc st.length 0 1000000 _ (by omega) (by omega) (by simp) (fun j hj=>by omega)
noncomputable abbrev eaR7 (vs:List Vrb) (ps:List Pcs) (ts:List Trn) (st:List Stp) (back:Nat) (K:List (List Bool)):=R224 M133 vs ps ts st (back:Int) K vs ps ts st (back:Int)
include hn in
theorem ea7_loop (K:List (List Bool)) (g:Nat→Bool) (hc:∀ i,i<st.length→M133 (i:Int) K vs ps ts st (back:Int)=some (g i,K,vs,ps,ts,st,(back:Int))):∀ (t i n:Nat) (out:List Bool),i+t=st.length→t<n→out.length=st.length→(∀ j,j<i→fnB out j=g j)→eaR7 vs ps ts st back K n (.l0 (st.length:Nat) i out K vs ps ts st (back:Int))=some ((rowL st.length g),K,vs,ps,ts,st,(back:Int))
 | t,i,0,out,hi,hn',ho,h=>by omega
 | 0,i,n+1,out,hi,hn',ho,h=>by
   show T224 Ops.std _ vs ps ts st _ _ _ _ _ _ _ _ some _=_
   unfold T224
   simp only [qae,qaa]
   rw [if_neg (by omega),qbo ho (fun j hj=>h j (by omega))]
 | t+1,i,n+1,out,hi,hn',ho,h=>by
   obtain ⟨l1,l2⟩:=qbc (show i<st.length by omega) ho h rfl
   have ih:=ea7_loop K g hc t (i+1) n (out.set i (g i)) (by omega) (by omega) l1 l2
   show T224 Ops.std _ vs ps ts st _ _ _ _ _ _ _ _ some _=_
   unfold T224
   simp only [qae,qag,qaa,qab,hc i (by omega),ob_s,show IntKind.wrap IntKind.i64 ((i:Int)+1)=((i+1:Nat):Int) from qaf (by omega)]
   rw [if_pos (by omega),if_pos (by omega)]
   exact ih
include hn in
theorem ea7_ok (K:List (List Bool)) (g:Nat→Bool) (hc:∀ i,i<st.length→M133 (i:Int) K vs ps ts st (back:Int)=some (g i,K,vs,ps,ts,st,(back:Int))):M224 vs ps ts st (back:Int) K vs ps ts st (back:Int)=some ((rowL st.length g),K,vs,ps,ts,st,(back:Int)):=by
 show T224 Ops.std M133 vs ps ts st (back:Int) K vs ps ts st (back:Int) (eaR7 vs ps ts st back K 1000000) some none=_
 unfold T224
 have h0n:(0:Int)≤(st.length:Int):=by omega
 have hlim:st.length*1≤140737488355328:=by omega
 simp only [qak,qan,qam,qab,decide_true,h0n,hlim,cond_true,List.length_replicate]
 exact ea7_loop vs ps ts st back hn K g hc st.length 0 1000000 _ (by omega) (by omega) (by simp) (fun j hj=>by omega)
theorem wnext_ok (hb:back<st.length) (i:Nat) (hi:i<st.length) (hn:st.length≤100):M134 vs ps ts st (back:Int) (i:Int)=some ((nx st.length back i:Nat):Int):=by
 show T134 Ops.std vs ps ts st (back:Int) (i:Int) some=_
 unfold T134 nx
 simp only [qae,qaa,show IntKind.wrap IntKind.i64 ((i:Int)+1)=((i+1:Nat):Int) from qaf (by omega)]
 by_cases h:i+1=st.length
 ·rw [if_neg (by omega),if_pos h]
 ·rw [if_pos (by omega),if_neg h]
def chg (op:Int) (a b:List Bool) (n back:Nat):Nat→List Bool→Bool
 | 0,out=>false
 | k+1,out=>(!(stepB op (fnB a) (fnB b) k (nx n back k) (fnB out) == fnB out k)) || chg op a b n back k (out.set k (stepB op (fnB a) (fnB b) k (nx n back k) (fnB out)))
theorem set_same (l:List Bool) (k:Nat) (hk:k<l.length):l.set k (fnB l k)=l:=by
 apply List.ext_getElem?
 intro j
 rw [List.getElem?_set]
 by_cases h:k=j
 ·subst h
  unfold fnB
  rw [if_pos rfl,if_pos hk,List.getD_eq_getElem?_getD,List.getElem?_eq_getElem hk];rfl
 ·rw [if_neg h]
theorem swL_ge (op:Int) (a b:List Bool) (n back:Nat):∀ (k:Nat) (out:List Bool) (i:Nat),k≤i→i<out.length→fnB (swL op a b n back k out) i=fnB out i
 | 0,out,i,h,hi=>rfl
 | k+1,out,i,h,hi=>by
   rw [swL,swL_ge op a b n back k _ i (by omega) (by simp;omega),qdx _ _ (by omega),if_neg (by omega)]
theorem chg_no (op:Int) (a b:List Bool) (n back:Nat):∀ (k:Nat) (out:List Bool),k≤out.length→chg op a b n back k out=false→swL op a b n back k out=out
 | 0,out,hk,h=>rfl
 | k+1,out,hk,h=>by
   simp only [chg,Bool.or_eq_false_iff,Bool.not_eq_false'] at h
   have e:stepB op (fnB a) (fnB b) k (nx n back k) (fnB out)=fnB out k:=by simpa using h.1
   rw [swL]
   rw [e,set_same out k (by omega)] at h ⊢
   exact chg_no op a b n back k out (by omega) h.2
theorem chg_of (op:Int) (a b:List Bool) (n back:Nat):∀ (k:Nat) (out:List Bool),k≤out.length→(∀ i,i<k→fnB (swL op a b n back k out) i=fnB out i)→chg op a b n back k out=false
 | 0,out,hk,h=>rfl
 | k+1,out,hk,h=>by
   have hs:=h k (by omega)
   rw [swL,swL_ge op a b n back k _ k (Nat.le_refl _) (by simp;omega),qdx _ _ (by omega),if_pos rfl] at hs
   simp only [chg,hs,set_same out k (by omega),beq_self_eq_true,Bool.not_true,Bool.false_or]
   refine chg_of op a b n back k out (by omega) fun i hi=>?_
   have:=h i (by omega)
   rw [swL,hs,set_same out k (by omega)] at this
   exact this
theorem stable_U {n back:Nat} (hb:back<n) (a b:Nat→Bool):∀ i,i<n→sw n back (ruU a b) n (sws n back (ruU a b) (n+1) fun _=>false) i=sws n back (ruU a b) (n+1) (fun _=>false) i:=
 sws_end (qbm a b) hb (n+1) (fun _=>false) (fun i hi h=>by cases h) (by omega)
theorem ruR_is (a b:Nat→Bool):ruR a b=dual (ruU (fun i=>!a i) (fun i=>!b i)):=by
 rw [ruU_dual];congr 1<;>(funext i;simp)
theorem stable_R {n back:Nat} (hb:back<n) (a b:Nat→Bool):∀ i,i<n→sw n back (ruR a b) n (sws n back (ruR a b) (n+1) fun _=>true) i=sws n back (ruR a b) (n+1) (fun _=>true) i:=by
 intro i hi
 have e:sws n back (ruR a b) (n+1) (fun _=>true)=fun i=>!sws n back (ruU (fun i=>!a i) (fun i=>!b i)) (n+1) (fun _=>false) i:=by
  rw [ruR_is,←sws_dual];rfl
 have h:=stable_U hb (fun i=>!a i) (fun i=>!b i) i hi
 rw [e,ruR_is,sw_dual]
 exact congrArg not h
def opU (release:Bool):Int:=if release then 10 else 9
def ruL (release:Bool) (a b:Nat→Bool):Nat→Bool→Bool:=if release then ruR a b else ruU a b
theorem stable_L {n back:Nat} (hb:back<n) (release:Bool) (a b:Nat→Bool):∀ i,i<n→sw n back (ruL release a b) n (sws n back (ruL release a b) (n+1) fun _=>release) i=sws n back (ruL release a b) (n+1) (fun _=>release) i:=by
 cases release
 ·exact stable_U hb a b
 ·exact stable_R hb a b
theorem sws_add {n back:Nat} (g:Nat→Bool→Bool):∀ (j r:Nat) (o:Nat→Bool),sws n back g (j+r) o=sws n back g r (sws n back g j o)
 | 0,r,o=>by rw [Nat.zero_add];rfl
 | j+1,r,o=>by rw [show j+1+r=(j+r)+1 by omega,sws,sws_add g j r,sws]
theorem sws_one {n back:Nat} (g:Nat→Bool→Bool) (j:Nat) (o:Nat→Bool):sws n back g (j+1) o=sw n back g n (sws n back g j o):=by rw [sws_add g j 1];rfl
theorem stepU (release:Bool) (a b:Nat→Bool) (i j:Nat) (o:Nat→Bool):stepB (opU release) a b i j o=ruL release a b i (o j):=by cases release<;>rfl
variable (f g:List Bool) (release:Bool)
noncomputable abbrev laR:=R135 M134 vs ps ts st (back:Int) f g release
include hn in
theorem la_step (hb:back<st.length) (hf:f.length=st.length) (hg:g.length=st.length) (m k:Nat) (hk:k<st.length) (fl:Bool) (out:List Bool) (ho:out.length=st.length) :
  laR vs ps ts st back f g release (m+3) (.l2 fl (k:Int) out)=laR vs ps ts st back f g release m (.l2 (fl || !(stepB (opU release) (fnB f) (fnB g) k (nx st.length back k) (fnB out) == fnB out k)) ((k:Int)-1) (out.set k (stepB (opU release) (fnB f) (fnB g) k (nx st.length back k) (fnB out)))):=by
 have hj:=qe3 st.length back hb hk
 have hnx:=wnext_ok vs ps ts st back hb k hk hn
 have hw:IntKind.wrap IntKind.i64 ((k:Int)-1)=(k:Int)-1:=wrap64 (by omega) (by omega)
 have ci:(0:Int)≤(k:Int)∧(k:Int)<((st.length:Nat):Int):=by omega
 have cj:(0:Int)≤((nx st.length back k:Nat):Int)∧((nx st.length back k:Nat):Int)<((st.length:Nat):Int):=by omega
 have h16:∀ v:Bool,laR vs ps ts st back f g release (m+1) (.l1016 fl (k:Int) v out)=laR vs ps ts st back f g release m (.l2 (fl || !(v == fnB out k)) ((k:Int)-1) (out.set k v)):=fun v=>by
  show T135 Ops.std _ vs ps ts st (back:Int) f g release _ some _=_
  unfold T135
  simp only [qag,qaa,qab,ho,if_pos ci,hw]
  cases fl<;>rfl
 have e1:∀ l:List Bool,∀ i:Nat,l.getD i (Ty.dflt Ty.bool)=fnB l i:=fun l i=>rfl
 have h14:∀ v:Bool,(release=false→v=(fnB g k || (fnB f k && fnB out (nx st.length back k))))→laR vs ps ts st back f g release (m+2) (.l1014 fl (k:Int) v out)=laR vs ps ts st back f g release (m+1) (.l1016 fl (k:Int) (stepB (opU release) (fnB f) (fnB g) k (nx st.length back k) (fnB out)) out):=fun v hv=>by
  show T135 Ops.std _ vs ps ts st (back:Int) f g release _ some _=_
  unfold T135
  rw [stepU]
  simp only [qag,qaa,qab,ho,hf,hg,if_pos ci,if_pos cj,hnx,ob_s]
  cases release with
  | false=>rw [hv rfl];rfl
  | true=>
    show cond true (cond (fnB g k) (cond (fnB f k) _ _) _) _=laR vs ps ts st back f g true (m+1) (.l1016 fl (k:Int) (ruR (fnB f) (fnB g) k (fnB out (nx st.length back k))) out)
    unfold ruR
    cases fnB g k<;>cases fnB f k<;>simp only [cond_true,cond_false,Bool.true_and,Bool.false_and,Bool.true_or,Bool.false_or]<;>rfl
 have h2:laR vs ps ts st back f g release (m+3) (.l2 fl (k:Int) out)=laR vs ps ts st back f g release (m+2) (.l1014 fl (k:Int) (fnB g k || (fnB f k && fnB out (nx st.length back k))) out):=by
  show T135 Ops.std _ vs ps ts st (back:Int) f g release _ some _=_
  unfold T135
  simp only [qan,qag,qaa,qab,ho,hf,hg,if_pos ci,if_pos ci.1,if_pos cj,hnx,ob_s]
  show cond (fnB g k) _ (cond (fnB f k) _ _)=_
  cases fnB g k<;>cases fnB f k<;>simp only [cond_true,cond_false,Bool.true_and,Bool.false_and,Bool.true_or,Bool.false_or]<;>rfl
 rw [h2,h14 _ (fun _=>rfl),h16]
include hn in
theorem la_sweep (hb:back<st.length) (hf:f.length=st.length) (hg:g.length=st.length):∀ (k:Nat),k≤st.length→∀ (m:Nat) (fl:Bool) (out:List Bool),out.length=st.length→
  laR vs ps ts st back f g release (m+1+3*k) (.l2 fl ((k:Int)-1) out)=laR vs ps ts st back f g release m (.l1 (fl || chg (opU release) f g st.length back k out) (swL (opU release) f g st.length back k out))
 | 0,hk,m,fl,out,ho=>by
   show T135 Ops.std _ vs ps ts st (back:Int) f g release _ some _=_
   unfold T135
   simp only [qan,qaa]
   rw [if_neg (by omega)]
   simp only [chg,Bool.or_false,swL]
 | k+1,hk,m,fl,out,ho=>by
   rw [show m+1+3*(k+1)=(m+1+3*k)+3 by omega,show (((k+1:Nat):Int)-1)=(k:Int) by omega,la_step vs ps ts st back hn f g release hb hf hg (m+1+3*k) k (by omega) fl out ho,la_sweep hb hf hg k (by omega) m _ _ (by simp [ho])]
   rw [chg,swL,Bool.or_assoc]
include hn in
theorem la_main (hb:back<st.length) (hf:f.length=st.length) (hg:g.length=st.length):∀ (r j m:Nat) (out:List Bool),j+r=st.length+1→400*(r+1)<m→out.length=st.length→(∀ i,i<st.length→fnB out i=sws st.length back (ruL release (fnB f) (fnB g)) j (fun _=>release) i)→
  ∃ fin:List Bool,laR vs ps ts st back f g release m (.l1 true out)=some fin∧fin.length=st.length∧∀ i,i<st.length→fnB fin i=sws st.length back (ruL release (fnB f) (fnB g)) (st.length+2) (fun _=>release) i
 | r,j,m,out,hj,hm,ho,h=>by
   obtain ⟨m,rfl⟩:∃ m',m=(m'+1+1+3*st.length)+1:=⟨m-3-3*st.length,by omega⟩
   have hw:IntKind.wrap IntKind.i64 ((st.length:Int)-1)=((st.length:Nat):Int)-1:=wrap64 (by omega) (by omega)
   have e1:laR vs ps ts st back f g release ((m+1+1+3*st.length)+1) (.l1 true out)=laR vs ps ts st back f g release (m+1+1+3*st.length) (.l2 false ((st.length:Int)-1) out):=by
    show T135 Ops.std _ vs ps ts st (back:Int) f g release _ some _=_
    unfold T135
    simp only [cond_true,ho,hw]
   have e2:=la_sweep vs ps ts st back hn f g release hb hf hg st.length (Nat.le_refl _) (m+1) false out ho
   have hfn:=swL_fn (opU release) f g st.length back (ruL release (fnB f) (fnB g)) (fun i o hi=>stepU release _ _ i _ o) st.length (Nat.le_refl _) out ho _ h hb
   have hsl:=qb5 (opU release) f g st.length back st.length out
   rw [e1,e2,Bool.false_or]
   cases hc:chg (opU release) f g st.length back st.length out with
   | false=>
     rw [chg_no _ _ _ _ _ _ _ (by omega) hc] at hfn ⊢
     refine ⟨out,rfl,ho,fun i hi=>?_⟩
     have hst:∀ i,i<st.length→sw st.length back (ruL release (fnB f) (fnB g)) st.length (sws st.length back (ruL release (fnB f) (fnB g)) j fun _=>release) i=sws st.length back (ruL release (fnB f) (fnB g)) j (fun _=>release) i:=fun i hi=>by rw [←hfn i hi,h i hi]
     rw [h i hi,show st.length+2=j+(r+1) by omega,sws_add,sws_stay hb (r+1) _ hst i hi]
   | true=>
     have hr:r≠0:=fun e=>by
      subst e
      have hj':j=st.length+1:=by omega
      subst hj'
      have:chg (opU release) f g st.length back st.length out=false:=chg_of _ _ _ _ _ _ _ (by omega) fun i hi=>by
       rw [hfn i hi,h i hi];exact stable_L hb release _ _ i hi
      rw [hc] at this;cases this
     obtain ⟨r',rfl⟩:∃ r',r=r'+1:=⟨r-1,by omega⟩
     exact la_main hb hf hg r' (j+1) (m+1) _ (by omega) (by omega) (by rw [hsl];exact ho) (fun i hi=>by rw [hfn i hi,sws_one])
include hn in
theorem la_fill (hb:back<st.length) (hf:f.length=st.length) (hg:g.length=st.length):∀ (t i n:Nat) (out:List Bool),i+t=st.length→t+50000<n→out.length=st.length→(∀ j,j<i→fnB out j=release)→laR vs ps ts st back f g release n (.l0 (st.length:Nat) i out)=some (rowL st.length (sws st.length back (ruL release (fnB f) (fnB g)) (st.length+2) fun _=>release))
 | t,i,0,out,hi,hn',ho,h=>by omega
 | 0,i,n+1,out,hi,hn',ho,h=>by
   obtain ⟨fin,f1,f2,f3⟩:=la_main vs ps ts st back hn f g release hb hf hg (st.length+1) 0 n out (by omega) (by omega) ho (fun j hj=>h j (by omega))
   show T135 Ops.std _ vs ps ts st (back:Int) f g release _ some _=_
   unfold T135
   simp only [qae,qaa]
   rw [if_neg (by omega),←qe7 f2 f3]
   exact f1
 | t+1,i,n+1,out,hi,hn',ho,h=>by
   obtain ⟨l1,l2⟩:=qbc (o:=fun _=>release) (show i<st.length by omega) ho h rfl
   have ih:=la_fill hb hf hg t (i+1) n (out.set i release) (by omega) (by omega) l1 l2
   show T135 Ops.std _ vs ps ts st (back:Int) f g release _ some _=_
   unfold T135
   simp only [qae,qag,qaa,qab,show IntKind.wrap IntKind.i64 ((i:Int)+1)=((i+1:Nat):Int) from qaf (by omega)]
   rw [if_pos (by omega),if_pos (by omega)]
   exact ih
include hn in
theorem la_ok (hb:back<st.length) (hf:f.length=st.length) (hg:g.length=st.length):M135 vs ps ts st (back:Int) f g release=some (rowL st.length (sws st.length back (ruL release (fnB f) (fnB g)) (st.length+2) fun _=>release)):=by
 show T135 Ops.std M134 vs ps ts st (back:Int) f g release (laR vs ps ts st back f g release 1000000) some none=_
 unfold T135
 have h0n:(0:Int)≤(st.length:Int):=by omega
 have hlim:st.length*1≤140737488355328:=by omega
 simp only [qak,qan,qam,qab,decide_true,h0n,hlim,cond_true,List.length_replicate]
 exact la_fill vs ps ts st back hn f g release hb hf hg st.length 0 1000000 _ (by omega) (by omega) (by simp) (fun j hj=>by omega)
end
section
variable {vs:List Vrb} {ps:List Pcs} (ts:List Trn)
noncomputable abbrev atP' (vs:List Vrb) (ps:List Pcs) (ts:List Trn) (st:List Stp) (back:Nat) (e:List Trm):=R128 M68 vs ps ts st (back:Int) e
theorem atom_loop (hg:smallG vs ps) (st:List Stp) (hn:st.length≤100) (back:Nat) (e:List Trm) (he:shortE e):∀ (t i n:Nat) (out:List Bool),i+t=st.length→t<n→out.length=st.length→(∀ j,j<i→fnB out j=valE vs ps ts st e j)→atP' vs ps ts st back e n (.l0 (st.length:Nat) i out)=some (rowL st.length (valE vs ps ts st e))
 | t,i,0,out,hi,hn',ho,h=>by omega
 | 0,i,n+1,out,hi,hn',ho,h=>by
   show T128 Ops.std _ vs ps ts st _ e _ some _=_
   unfold T128
   simp only [qae,qaa]
   rw [if_neg (by omega),qbo ho (fun j hj=>h j (by omega))]
 | t+1,i,n+1,out,hi,hn',ho,h=>by
   obtain ⟨v,hv⟩:=eval_ok (ts:=ts) hg (st.getD i (Ty.dflt ty68)).1.1 (st.getD i (Ty.dflt ty68)).1.2 e he
   have hval:(!decide (v=0))=valE vs ps ts st e i:=by unfold valE;rw [hv];rfl
   obtain ⟨l1,l2⟩:=qbc (show i<st.length by omega) ho h hval
   have ih:=atom_loop hg st hn back e he t (i+1) n (out.set i (!decide (v=0))) (by omega) (by omega) l1 l2
   show T128 Ops.std _ vs ps ts st _ e _ some _=_
   unfold T128
   simp only [qae,qak,qag,qaa,qab,evalP_eq ts hg _ _ e he,hv,ob_s,show IntKind.wrap IntKind.i64 ((i:Int)+1)=((i+1:Nat):Int) from qaf (by omega)]
   rw [if_pos (by omega),if_pos (by omega),if_pos (by omega)]
   exact ih
theorem atom_ok (hg:smallG vs ps) (st:List Stp) (hn:st.length≤100) (back:Nat) (e:List Trm) (he:shortE e):M128 vs ps ts st (back:Int) e=some (rowL st.length (valE vs ps ts st e)):=by
 show T128 Ops.std M68 vs ps ts st (back:Int) e (atP' vs ps ts st back e 1000000) some none=_
 unfold T128
 have h0n:(0:Int)≤(st.length:Int):=by omega
 have hlim:st.length*1≤140737488355328:=by omega
 simp only [qak,qan,qam,qab,decide_true,h0n,hlim,cond_true,List.length_replicate]
 exact atom_loop ts hg st hn back e he st.length 0 1000000 _ (by omega) (by omega) (by simp) (fun j hj=>by omega)
theorem pa_1 (i:Int):M126 i=some true:=rfl
theorem pa_2 (i:Int):M127 i=some false:=rfl
theorem pa_3 (a:List Bool) (K:List (List Bool)) (i:Nat) (hi:i<a.length):M129 (i:Int) (a::K)=some (!fnB a i,a::K):=by
 show T129 Ops.std (i:Int) (a::K) some=_
 unfold T129
 simp only [qag,qaa,List.length_cons]
 rw [if_pos (by omega)]
 have hg:∀ d,(a::K).getD (Int.toNat 0) d=a:=fun d=>rfl
 simp only [hg,qab]
 rw [if_pos (by omega)];rfl
theorem pa_4 (a b:List Bool) (K:List (List Bool)) (i:Nat) (hi:i<a.length) (hi2:i<b.length):M130 (i:Int) (a::b::K)=some (fnB a i && fnB b i,a::b::K):=by
 show T130 Ops.std (i:Int) (a::b::K) some=_
 unfold T130
 simp only [qag,qaa,List.length_cons]
 have hg:∀ d,(a::b::K).getD (Int.toNat 0) d=a:=fun d=>rfl
 have hg1:∀ d,(a::b::K).getD (Int.toNat 1) d=b:=fun d=>rfl
 have e0:a.getD i (Ty.dflt Ty.bool)=fnB a i:=rfl
 have e1:b.getD i (Ty.dflt Ty.bool)=fnB b i:=rfl
 simp only [hg,hg1,qab,e0,e1]
 rw [if_pos (by omega),if_pos (by omega),if_pos (by omega),if_pos (by omega)]
 cases fnB a i<;>simp
theorem pa_5 (a b:List Bool) (K:List (List Bool)) (i:Nat) (hi:i<a.length) (hi2:i<b.length):M131 (i:Int) (a::b::K)=some (fnB a i || fnB b i,a::b::K):=by
 show T131 Ops.std (i:Int) (a::b::K) some=_
 unfold T131
 simp only [qag,qaa,List.length_cons]
 have hg:∀ d,(a::b::K).getD (Int.toNat 0) d=a:=fun d=>rfl
 have hg1:∀ d,(a::b::K).getD (Int.toNat 1) d=b:=fun d=>rfl
 have e0:a.getD i (Ty.dflt Ty.bool)=fnB a i:=rfl
 have e1:b.getD i (Ty.dflt Ty.bool)=fnB b i:=rfl
 simp only [hg,hg1,qab,e0,e1]
 rw [if_pos (by omega),if_pos (by omega),if_pos (by omega),if_pos (by omega)]
 cases fnB a i<;>simp
theorem pa_6 (a b:List Bool) (K:List (List Bool)) (i:Nat) (hi:i<a.length) (hi2:i<b.length):M132 (i:Int) (a::b::K)=some (!fnB a i || fnB b i,a::b::K):=by
 show T132 Ops.std (i:Int) (a::b::K) some=_
 unfold T132
 simp only [qag,qaa,List.length_cons]
 have hg:∀ d,(a::b::K).getD (Int.toNat 0) d=a:=fun d=>rfl
 have hg1:∀ d,(a::b::K).getD (Int.toNat 1) d=b:=fun d=>rfl
 have e0:a.getD i (Ty.dflt Ty.bool)=fnB a i:=rfl
 have e1:b.getD i (Ty.dflt Ty.bool)=fnB b i:=rfl
 simp only [hg,hg1,qab,e0,e1]
 rw [if_pos (by omega),if_pos (by omega),if_pos (by omega),if_pos (by omega)]
 cases fnB a i<;>simp
theorem pa_7 (st:List Stp) (back:Nat) (hn:st.length≤100) (hb:back<st.length) (a:List Bool) (K:List (List Bool)) (ha:a.length=st.length) (i:Nat) (hi:i<st.length):M133 (i:Int) (a::K) vs ps ts st (back:Int)=some (fnB a (nx st.length back i),a::K,vs,ps,ts,st,(back:Int)):=by
 show T133 Ops.std M134 (i:Int) (a::K) vs ps ts st (back:Int) some=_
 unfold T133
 have hj:=qe3 st.length back hb hi
 simp only [qag,qaa,List.length_cons,wnext_ok vs ps ts st back hb i hi hn,ob_s]
 have hg:∀ d,(a::K).getD (Int.toNat 0) d=a:=fun d=>rfl
 simp only [hg,qab]
 rw [if_pos (by omega),if_pos (by omega)];rfl
theorem part_row (hg:smallG vs ps) (st:List Stp) (back:Nat) (hn:st.length≤100) (hb:back<st.length) (op:Int) (e:List Trm) (he:op=3→shortE e) (a b:List Bool) (kids:List (List Bool))
  (hk:(opn op=0)∨(opn op=1∧kids=[a]∧a.length=st.length)∨(opn op=2∧kids=[a,b]∧a.length=st.length∧b.length=st.length)) {o:Nat→Bool} (ho:∀ i,i<st.length→(if op=3 then valE vs ps ts st e i else rowOK op (fnB a) (fnB b) st.length back i)=o i) :
  M76 vs ps ts st (back:Int) op e kids=some (rowL st.length o):=by
 show T76 Ops.std M125 M219 M220 M221 M222 M223 M224 M126 M127 M128 M129 M130 M131 M132 M133 M135 vs ps ts st (back:Int) op e kids some=_
 unfold T76
 have y:=ea1_ok vs ps ts st back hn (fun _=>true) (fun i _=>pa_1 _)
 have z:=ea2_ok vs ps ts st back hn (fun _=>false) (fun i _=>pa_2 _)
 have yl:=qa7 st.length fun _=>true
 have zl:=qa7 st.length fun _=>false
 rw [y,ob_s,z,ob_s]
 simp only [qak,qag,qaa]
 have hg0:∀ (d:List Bool) (K:List (List Bool)),(a::K).getD (Int.toNat 0) d=a:=fun d K=>rfl
 have hg1:∀ (d:List Bool),[a,b].getD (Int.toNat 1) d=b:=fun d=>rfl
 have fy:∀ i,i<st.length→fnB (rowL st.length fun _=>true) i=true:=fun i hi=>qbp _ _ i hi
 have fz:∀ i,i<st.length→fnB (rowL st.length fun _=>false) i=false:=fun i hi=>qbp _ _ i hi
 rcases hk with h0 | ⟨h1,rfl,la⟩ | ⟨h2,rfl,la,lb⟩
 ·have hop:op=1∨op=2∨op=3:=by unfold opn at h0;split at h0<;>first | assumption | (split at h0<;>first | omega | (split at h0<;>omega))
  rcases hop with rfl | rfl | rfl
  ·rw [if_pos rfl]
   exact congrArg some (qax fun i hi=>(show true=o i from ho i hi))
  ·rw [if_neg (by omega),if_pos rfl]
   exact congrArg some (qax fun i hi=>(show false=o i from ho i hi))
  ·rw [if_neg (by omega),if_neg (by omega),if_pos rfl,atom_ok ts hg st hn back e (he rfl),ob_s]
   exact congrArg some (qax fun i hi=>(show valE vs ps ts st e i=o i from ho i hi))
 ·have hop:op=4∨op=8∨op=11∨op=12:=by unfold opn at h1;split at h1<;>first | omega | (split at h1<;>first | assumption | (split at h1<;>omega))
  rcases hop with rfl | rfl | rfl | rfl
  ·rw [if_neg (by omega),if_neg (by omega),if_neg (by omega),if_pos rfl,ea3_ok vs ps ts st back hn [a] (fun i=>!fnB a i) (fun i hi=>pa_3 a [] i (by omega)),ob_s]
   exact congrArg some (qax fun i hi=>(show (!fnB a i)=o i from ho i hi))
  ·rw [if_neg (by omega),if_neg (by omega),if_neg (by omega),if_neg (by omega),if_neg (by omega),if_neg (by omega),if_neg (by omega),if_pos rfl,ea7_ok vs ps ts st back hn [a] (fun i=>fnB a (nx st.length back i)) (fun i hi=>pa_7 ts st back hn hb a [] la i hi),ob_s]
   exact congrArg some (qax fun i hi=>(show fnB a (nx st.length back i)=o i from ho i hi))
  ·rw [if_neg (by omega),if_neg (by omega),if_neg (by omega),if_neg (by omega),if_neg (by omega),if_neg (by omega),if_neg (by omega),if_neg (by omega),if_pos rfl,if_pos (by simp),hg0,la_ok vs ps ts st back hn _ a false hb yl la,ob_s]
   refine congrArg some (qax fun i hi=>?_)
   have e1:=ho i hi
   rw [←e1]
   show lf st.length back (ruU (fnB (rowL st.length fun _=>true)) (fnB a)) i=lf st.length back (ruF (fnB a)) i
   rw [ruF_U]
   exact lf_map (h:=fun i=>i) hb hb (fun i hi=>hi) (fun i hi=>rfl) (qbm _ _) (qbm _ _) (fun i x hi=>by unfold ruU;rw [fy i hi]) i hi
  ·rw [if_neg (by omega),if_neg (by omega),if_neg (by omega),if_neg (by omega),if_neg (by omega),if_neg (by omega),if_neg (by omega),if_neg (by omega),if_neg (by omega),if_pos rfl,if_pos (by simp),hg0,la_ok vs ps ts st back hn _ a true hb zl la,ob_s]
   refine congrArg some (qax fun i hi=>?_)
   have e1:=ho i hi
   rw [←e1]
   show gf st.length back (ruR (fnB (rowL st.length fun _=>false)) (fnB a)) i=gf st.length back (ruG (fnB a)) i
   rw [ruG_R]
   exact gf_map (h:=fun i=>i) hb hb (fun i hi=>hi) (fun i hi=>rfl) (qb4 _ _) (qb4 _ _) (fun i x hi=>by unfold ruR;rw [fz i hi]) i hi
 ·have hop:op=5∨op=6∨op=7∨op=9∨op=10:=by unfold opn at h2;split at h2<;>first | omega | (split at h2<;>first | omega | (split at h2<;>first | assumption | omega))
  rcases hop with rfl | rfl | rfl | rfl | rfl
  ·rw [if_neg (by omega),if_neg (by omega),if_neg (by omega),if_neg (by omega),if_pos rfl,ea4_ok vs ps ts st back hn [a,b] (fun i=>fnB a i && fnB b i) (fun i hi=>pa_4 a b [] i (by omega) (by omega)),ob_s]
   exact congrArg some (qax fun i hi=>(show (fnB a i && fnB b i)=o i from ho i hi))
  ·rw [if_neg (by omega),if_neg (by omega),if_neg (by omega),if_neg (by omega),if_neg (by omega),if_pos rfl,ea5_ok vs ps ts st back hn [a,b] (fun i=>fnB a i || fnB b i) (fun i hi=>pa_5 a b [] i (by omega) (by omega)),ob_s]
   exact congrArg some (qax fun i hi=>(show (fnB a i || fnB b i)=o i from ho i hi))
  ·rw [if_neg (by omega),if_neg (by omega),if_neg (by omega),if_neg (by omega),if_neg (by omega),if_neg (by omega),if_pos rfl,ea6_ok vs ps ts st back hn [a,b] (fun i=>!fnB a i || fnB b i) (fun i hi=>pa_6 a b [] i (by omega) (by omega)),ob_s]
   exact congrArg some (qax fun i hi=>(show (!fnB a i || fnB b i)=o i from ho i hi))
  ·rw [if_neg (by omega),if_neg (by omega),if_neg (by omega),if_neg (by omega),if_neg (by omega),if_neg (by omega),if_neg (by omega),if_neg (by omega),if_neg (by omega),if_neg (by omega),if_pos (by simp),if_pos (by simp),hg0,hg1,show (decide ((9:Int)=10))=false from rfl,la_ok vs ps ts st back hn a b false hb la lb,ob_s]
   exact congrArg some (qax fun i hi=>(show lf st.length back (ruU (fnB a) (fnB b)) i=o i from ho i hi))
  ·rw [if_neg (by omega),if_neg (by omega),if_neg (by omega),if_neg (by omega),if_neg (by omega),if_neg (by omega),if_neg (by omega),if_neg (by omega),if_neg (by omega),if_neg (by omega),if_pos (by simp),if_pos (by simp),hg0,hg1,show (decide ((10:Int)=10))=true from rfl,la_ok vs ps ts st back hn a b true hb la lb,ob_s]
   exact congrArg some (qax fun i hi=>(show gf st.length back (ruR (fnB a) (fnB b)) i=o i from ho i hi))
end
end Go.Proofs.YtccnmhdgghjgoaaGreatDoor.Av
