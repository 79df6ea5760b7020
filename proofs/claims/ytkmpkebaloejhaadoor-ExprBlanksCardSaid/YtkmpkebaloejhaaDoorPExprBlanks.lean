/- The plain law of ExprBlanks: what its twin computes answers true. Conditions: none. -/
import Derived.Test.YtkmpkebaloejhaaDoorPExprBlanksa
set_option linter.unusedSimpArgs false
set_option linter.unusedVariables false
set_option maxRecDepth 100000
namespace Go.Proofs.YtkmpkebaloejhaaDoor.Av
open Go
theorem run2_prog {p:UInt8→Bool} {c:Int→Option Bool} (hc:∀ b:UInt8,c (b.toNat:Int)=some (p b)) (s:List UInt8) (hs:s.length<900000):F178 c s=some (s.takeWhile p):=by
 have h:∀ (t i n:Nat),i+t=s.length→t<n→R178 c s n (.l0 i)=some (s.take i++(s.drop i).takeWhile p):=by
  intro t
  induction t with
  | zero=>
    intro i n hi hn
    cases n with
    | zero=>omega
    | succ n=>
      show T178 Ops.std c s _ some _=_
      unfold T178
      simp only [qal,qam,qaa,qai]
      rw [if_neg (by omega),if_pos (by omega),List.drop_eq_nil_of_le (show s.length≤i by omega)]
      simp
  | succ t ih=>
    intro i n hi hn
    cases n with
    | zero=>omega
    | succ n=>
      have hlt:i<s.length:=by omega
      show T178 Ops.std c s _ some _=_
      unfold T178
      have hw:IntKind.wrap IntKind.i64 ((i:Int)+1)=((i+1:Nat):Int):=qaj (by omega)
      simp only [qal,qam,qaa,qai]
      rw [if_pos (by omega),if_pos (by omega),hc,ob_s,qd6 hlt]
      cases hp:p (s.getD i 0) with
      | true=>
        simp only [cond_true]
        rw [hw,ih (i+1) n (by omega) (by omega),List.takeWhile_cons_of_pos hp]
        have:s.take (i+1)=s.take i++[s.getD i 0]:=by
         rw [List.take_add_one]
         simp [List.getD_eq_getElem?_getD,List.getElem?_eq_getElem hlt]
        rw [this]
        simp
      | false=>
        simp only [cond_false]
        rw [if_pos (by omega),List.takeWhile_cons_of_neg (by rw [hp];decide)]
        simp
 show T178 Ops.std c s _ some none=_
 unfold T178
 have:=h s.length 0 1000000 (by omega) (by omega)
 rw [List.take_zero,List.drop_zero,List.nil_append] at this
 exact this
theorem runD_prog (s:List UInt8) (hs:s.length<900000):M178 s=some (s.takeWhile digitP'):=run2_prog qc5 s hs
theorem qer (l:List Int) (x:Int) (hl:l.length<900000):∀ (t i n:Nat),i+t=l.length→t<n→
  R101 l x n (.l0 l.length i)=some (if x∈l.drop i then ((i+(l.drop i).findIdx (fun y=>decide (x=y)):Nat):Int) else -1)
 | t,i,0,hi,hn=>by omega
 | 0,i,n+1,hi,hn=>by
   show T101 Ops.std l x _ some _=_
   unfold T101
   simp only [qal,qaa]
   rw [if_neg (by omega),List.drop_eq_nil_of_le (by omega)]
   simp
 | t+1,i,n+1,hi,hn=>by
   have ih:=qer l x hl t (i+1) n (by omega) (by omega)
   have hd:l.drop i=l.getD i 0::l.drop (i+1):=qb8 0 (by omega)
   show T101 Ops.std l x _ some _=_
   unfold T101
   have hw:IntKind.wrap IntKind.i64 ((i:Int)+1)=((i+1:Nat):Int):=qaj (by omega)
   simp only [qal,qam,qap,qaa,qai,hw]
   rw [if_pos (by omega),if_pos (by omega),hd]
   have hdf:l.getD i (Ty.dflt ty5)=l.getD i 0:=rfl
   rw [hdf]
   by_cases hx:x=l.getD i 0
   ·rw [if_pos hx,if_pos (by rw [hx];exact List.mem_cons_self ..),List.findIdx_cons,decide_eq_true hx,cond_t]
    simp
   ·rw [if_neg hx]
    refine Eq.trans ih ?_
    rw [List.findIdx_cons]
    have:decide (x=l.getD i 0)=false:=decide_eq_false hx
    rw [this,cond_f]
    simp only [List.mem_cons,hx,false_or]
    by_cases hm:x∈l.drop (i+1)
    ·rw [if_pos hm,if_pos hm];congr 1;omega
    ·rw [if_neg hm,if_neg hm]
theorem qcq (l:List Int) (x:Int) (hl:l.length<900000):M66 l x=some (decide (x∈l)):=by
 have h0:=qer l x hl l.length 0 1000000 (by omega) (by omega)
 have h:M101 l x=some (if x∈l.drop 0 then ((0+(l.drop 0).findIdx (fun y=>decide (x=y)):Nat):Int) else -1):=by
  show T101 Ops.std l x (R101 l x 1000000) some none=_
  unfold T101
  exact h0
 show T66 Ops.std M101 l x some=_
 unfold T66
 rw [h,ob_s,qbt,List.drop_zero]
 by_cases hm:x∈l
 ·rw [if_pos hm];simp [hm]
 ·rw [if_neg hm];simp [hm]
theorem qea (w:List UInt8) (h3:w.length≤3) (hd:∀ b∈w,digitP' b=true):∀ (t i n:Nat),i+t=w.length→t<n→R104 w n (.l0 (valW (w.take i)) w.length i)=some (valW w)
 | t,i,0,hi,hn=>by omega
 | 0,i,n+1,hi,hn=>by
   show T104 Ops.std w _ some _=_
   unfold T104
   simp only [qal,qaa]
   rw [if_neg (by omega),List.take_of_length_le (by omega)]
 | t+1,i,n+1,hi,hn=>by
   have ih:=qea w h3 hd t (i+1) n (by omega) (by omega)
   have hb:=qeq i (w.take i) (by rw [List.length_take];omega) fun b hb=>hd b (List.mem_of_mem_take hb)
   have hmem:w.getD i 0∈w:=by
    rw [List.getD_eq_getElem?_getD,List.getElem?_eq_getElem (show i<w.length by omega)]
    exact List.getElem_mem _
   have hv:=qbi (hd _ hmem)
   have h100:0≤valW (w.take i)∧valW (w.take i)<1000:=by
    have hi3:i=0∨i=1∨i=2:=by omega
    rcases hi3 with rfl | rfl | rfl<;>simp at hb ⊢<;>omega
   rw [take_snoc w i (by omega),valW_snoc] at ih
   show T104 Ops.std w _ some _=_
   unfold T104
   have hw:IntKind.wrap IntKind.i64 ((i:Int)+1)=((i+1:Nat):Int):=qaj (by omega)
   simp only [qal,qam,qaa,qai,hw]
   rw [if_pos (by omega),if_pos (by omega),wrap8 (by omega) (by omega),wrap64 (n:=(((w.getD i 0).toNat:Int)-48)) (by omega) (by omega),wrap64 (n:=10*valW (w.take i)) (by omega) (by omega),wrap64 (by omega) (by omega)]
   exact ih
theorem number_prog (w:List UInt8) (h3:w.length≤3) (hd:∀ b∈w,digitP' b=true):M104 w=some (valW w):=by
 have:=qea w h3 hd w.length 0 1000000 (by omega) (by omega)
 rw [List.take_zero,show valW []=0 from rfl] at this
 show T104 Ops.std w (R104 w 1000000) some none=_
 unfold T104
 exact this
def preP (s p:List UInt8):Bool:=s.take p.length == p
theorem prefix_prog (s p:List UInt8):M108 s p=some (preP s p):=by
 show T108 Ops.std M126 s p some=_
 unfold T108
 have:M126 s p=some (preP s p):=by
  show T126 Ops.std s p some=_
  unfold T126 preP
  simp only [qbt,qam,qaa,qai]
  by_cases h:p.length≤s.length
  ·rw [if_pos (by omega),if_pos (by omega)]
   simp
  ·have hne:s.take p.length≠p:=by
    intro he
    have:=congrArg List.length he
    rw [List.length_take] at this
    omega
   simp [h,hne]
 rw [this]
 rfl
def signsP:List (List UInt8):=[[60,61],[62,61],[61,61],[33,61],[38,38],[124,124],[45,62],[40],[41],[91],[93],[43],[45],[42],[60],[62],[33],[64],[59],[61]]
theorem signs_prog:M107=some signsP:=rfl
theorem qes {α:Type} {p q:α→Bool}:∀ {l:List α},(∀ x∈l,p x=q x)→l.find? p=l.find? q
 | [],_=>rfl
 | a::l,h=>by
   rw [List.find?_cons,List.find?_cons,h a (List.mem_cons_self ..),qes (l:=l) fun x hx=>h x (List.mem_cons_of_mem _ hx)]
theorem signsP_find (s:List UInt8):signsP.find? (preP s)=if signS s=[] then none else some (signS s):=by
 have e:signsP=twos++ones.map fun b=>[b]:=rfl
 have e2:twos.find? (preP s)=twos.find? (fun p=>decide (1<s.length) && (s.take 2 == p)):=qes fun p hp=>by
  have hl:p.length=2:=by
   have:∀ q∈twos,q.length=2:=by decide
   exact this p hp
  unfold preP
  rw [hl]
  by_cases h1:1<s.length
  ·simp [h1]
  ·have:s.take 2≠p:=by
    intro he
    have:=congrArg List.length he
    rw [List.length_take] at this
    omega
   simp [h1,this]
 rw [e,List.find?_append,e2,List.find?_map]
 unfold signS
 cases h:twos.find? (fun p=>decide (1<s.length) && (s.take 2 == p)) with
 | some p=>
   have hne:p≠[]:=by
    have:∀ q∈twos,q≠[]:=by decide
    exact this p (List.mem_of_find?_eq_some h)
   simp [hne]
 | none=>
   have e3:(preP s ∘ fun b=>[b])=fun b=>s.take 1 == [b]:=rfl
   rw [e3]
   cases h2:ones.find? (fun b=>s.take 1 == [b]) with
   | some b=>
     have h3:=List.find?_some h2
     simp only [beq_iff_eq] at h3
     simp [h3]
   | none=>simp
noncomputable abbrev tokR (s:List UInt8):=R67 M102 M103 M178 M104 M105 M106 M66 M107 M108 s
theorem qeb (s:List UInt8) (l:List (List UInt8)) (hl:l.length<1000):∀ (t i n:Nat),i+t=l.length→t<n→tokR s n (.l0 l.length i l)=some (match (l.drop i).find? (preP s) with
  | some p=>(4,p,0,0)
  | none=>(0,[],0,0))
 | t,i,0,hi,hn=>by omega
 | 0,i,n+1,hi,hn=>by
   show T67 Ops.std _ _ _ _ _ _ _ _ _ s _ some _=_
   unfold T67
   simp only [qal,qaa]
   rw [if_neg (by omega),List.drop_eq_nil_of_le (by omega)]
   rfl
 | t+1,i,n+1,hi,hn=>by
   have ih:=qeb s l hl t (i+1) n (by omega) (by omega)
   have hd:l.drop i=l.getD i (Ty.dflt ty9)::l.drop (i+1):=qb8 _ (by omega)
   show T67 Ops.std _ _ _ _ _ _ _ _ _ s _ some _=_
   unfold T67
   have hw:IntKind.wrap IntKind.i64 ((i:Int)+1)=((i+1:Nat):Int):=qaj (by omega)
   simp only [qal,qam,qaa,qai,hw,prefix_prog,ob_s]
   rw [if_pos (by omega),if_pos (by omega),hd,List.find?_cons]
   cases hp:preP s (l.getD i (Ty.dflt ty9)) with
   | true=>simp only [cond_true]
   | false=>
     simp only [cond_false]
     exact ih
theorem token_prog (s:List UInt8) (h0:0<s.length) (hs:s.length<900000):M67 s=some (match tokS s with
  | some (k,w,n)=>(k,w,n,0)
  | none=>(0,[],0,0)):=by
 show T67 Ops.std M102 M103 M178 M104 M105 M106 M66 M107 M108 s (tokR s 1000000) some none=_
 unfold T67
 cases s with
 | nil=>simp at h0
 | cons b r=>
   have hsg:=qeb (b::r) signsP (by decide) 20 0 1000000 rfl (by omega)
   have e0:(b::r).getD (Int.toNat 0) 0=b:=rfl
   simp only [qam,qbt,qaa,e0,qc5,qcf,signs_prog,runD_prog _ hs,runW_prog _ hs,ob_s]
   rw [if_pos (by omega),tokS]
   cases hdg:digitP' b with
   | true=>
     simp only [cond_true,if_true]
     by_cases h3:((b::r).takeWhile digitP').length≤3
     ·rw [if_pos (by omega),if_pos h3,number_prog _ h3 (tw_all _),ob_s]
     ·rw [if_neg (by omega),if_neg h3]
   | false=>
     simp only [cond_false,Bool.false_eq_true,if_false]
     cases hlw:lowerP b with
     | true=>
       simp only [cond_true,if_true]
       by_cases h8:((b::r).takeWhile wordP).length≤8
       ·rw [if_pos (by omega),if_pos h8]
       ·rw [if_neg (by omega),if_neg h8]
     | false=>
       simp only [cond_false,Bool.false_eq_true,if_false]
       have hc:M66 (88::70::71::85::82::mt (Ty.den (Ty.int IntKind.u8))) (b.toNat:Int)=some (letterP b):=by
        refine (qcq _ _ (by simp [mt])).trans ?_
        congr 1
        rw [Bool.eq_iff_iff]
        simp only [decide_eq_true_eq,letterP,Bool.or_eq_true,List.mem_cons,mt,List.not_mem_nil,or_false]
        omega
       rw [hc,ob_s]
       cases hlt:letterP b with
       | true=>
         simp only [cond_true,if_true]
         rw [if_pos (by omega)]
         rfl
       | false=>
         simp only [cond_false,Bool.false_eq_true,if_false]
         refine Eq.trans hsg ?_
         rw [List.drop_zero,signsP_find]
         by_cases hn:signS (b::r)=[]
         ·rw [if_pos hn,if_pos hn]
         ·rw [if_neg hn,if_neg hn]
noncomputable abbrev lexPR (s:List UInt8):=R29 M66 M67 s
theorem lexP_go (s:List UInt8) (hs:s.length≤60000):∀ (f a n:Nat) (out:List Tok),s.length-a<f→a≤s.length→s.length-a<n→out.length≤a→
  lexPR s n (.l0 a out)=some (lexGo f (s.drop a) a out)
 | 0,a,n,out,hf,ha,hn,ho=>by omega
 | f+1,a,0,out,hf,ha,hn,ho=>by omega
 | f+1,a,n+1,out,hf,ha,hn,ho=>by
   have ih:=lexP_go s hs f
   show T29 Ops.std _ _ s _ some _=_
   unfold T29
   by_cases hend:a=s.length
   ·rw [List.drop_eq_nil_of_le (by omega)]
    simp only [qal,qa2,qaa,mt,List.length_cons,List.length_nil]
    rw [if_neg (by omega),if_pos (by omega),hend]
    rfl
   ·have halt:a<s.length:=by omega
    have hd:s.drop a=s.getD a 0::s.drop (a+1):=qd6 halt
    have hw1:IntKind.wrap IntKind.i64 ((a:Int)+1)=((a+1:Nat):Int):=qaj (by omega)
    have hc:M66 (32::9::10::mt (Ty.den (Ty.int IntKind.u8))) ((s.getD a 0).toNat:Int)=some (blankP (s.getD a 0)):=by
     refine (qcq _ _ (by simp [mt])).trans ?_
     congr 1
     rw [Bool.eq_iff_iff]
     simp only [decide_eq_true_eq,blankP,Bool.or_eq_true,List.mem_cons,mt,List.not_mem_nil,or_false]
     omega
    have htk:=token_prog (s.drop a) (by rw [List.length_drop];omega) (by rw [List.length_drop];omega)
    simp only [qal,qam,qap,qa2,qaa,qai,hw1,hc,ob_s,List.take_length,htk]
    rw [if_pos (by omega),if_pos (by omega)]
    cases hb:blankP (s.getD a 0) with
    | true=>
      simp only [cond_true]
      refine Eq.trans (ih (a+1) n out (by omega) (by omega) (by omega) (by omega)) ?_
      rw [hd]
      simp only [lexGo,hb,if_true]
    | false=>
      simp only [cond_false]
      rw [if_pos (by omega)]
      cases ht:tokS (s.drop a) with
      | none=>
        simp only [if_true]
        rw [hd] at ht ⊢
        simp only [lexGo,hb,ht,Bool.false_eq_true,if_false]
      | some x=>
        obtain ⟨k,w,v⟩:=x
        obtain ⟨h1,h2,h3,h4,h5⟩:=tok_len ht
        rw [List.length_drop] at h2
        simp only [if_neg h4,mt,List.length_cons,List.length_nil]
        rw [if_pos (by omega),show IntKind.wrap IntKind.i64 ((a:Int)+(w.length:Int))=((a+w.length:Nat):Int) by rw [wrap64 (by omega) (by omega)];omega]
        refine Eq.trans (ih (a+w.length) n _ (by omega) (by omega) (by omega) (by simp;omega)) ?_
        have ht':=ht
        rw [hd] at ht ⊢
        simp only [lexGo,hb,ht,Bool.false_eq_true,if_false]
        rw [←hd,List.drop_drop]
theorem lex_prog (s:List UInt8):M29 s=some (lexS s):=by
 show T29 Ops.std M66 M67 s (lexPR s 1000000) some none=_
 unfold T29 lexS
 simp only [qal,qaa,mt]
 by_cases h:60000<s.length
 ·rw [if_pos (by omega),if_pos h]
 ·rw [if_neg (by omega),if_neg h]
  exact lexP_go s (by omega) (s.length+1) 0 1000000 [] (by omega) (by omega) (by omega) (by simp)
def sgT (l:List Tok) (a:Nat):List UInt8:=if (tkD l a).1=4 then (tkD l a).2.1 else []
theorem sgT_is {l:List Tok} {a:Nat} {w:List UInt8} (hw:w≠[]):(sgT l a == w)=isS l a w:=by
 unfold sgT isS
 by_cases h:(tkD l a).1=4
 ·rw [if_pos h,decide_eq_true h,Bool.true_and]
 ·rw [if_neg h,decide_eq_false h,Bool.false_and]
  simpa using hw
theorem sgT_op (l:List Tok) (a:Nat):sgW (sgT l a)=sgE l a:=by
 unfold sgT sgE
 split<;>rfl
theorem qbk {l:List Tok} {a:Nat} (ha:a<l.length) (out:List Trm):M98 l a out=some (sgT l a,l,(a:Int),out):=by
 show T98 Ops.std l a out some=_
 unfold T98 sgT
 simp only [qam,qap,qaa,qai]
 rw [if_pos (by omega)]
 split<;>rfl
theorem op_chain (w:List UInt8):M97 w=cond (([42]:List UInt8) == w) (some (6,4)) (cond (([43]:List UInt8) == w) (some (7,3)) (cond (([45]:List UInt8) == w) (some (8,3)) (cond (([60]:List UInt8) == w) (some (9,2)) (cond (([60,61]:List UInt8) == w) (some (10,2)) (cond (([62]:List UInt8) == w) (some (11,2)) (cond (([62,61]:List UInt8) == w) (some (12,2)) (cond (([61,61]:List UInt8) == w) (some (13,2)) (cond (([33,61]:List UInt8) == w) (some (14,2)) (cond (([38,38]:List UInt8) == w) (some (15,1)) (cond (([124,124]:List UInt8) == w) (some (16,0)) (some (0,-1)))))))))))):=by kernel_rfl
theorem beq_ite {α:Type} (x w:List UInt8) (a b:α):cond (x == w) a b=if w=x then a else b:=by
 by_cases h:w=x
 ·rw [if_pos h,h];simp
 ·rw [if_neg h]
  have:(x == w)=false:=by simpa using fun h2=>h h2.symm
  rw [this];rfl
theorem op_prog (w:List UInt8):M97 w=some ((sgW w).1,((sgW w).2:Int)-1):=by
 rw [op_chain]
 simp only [beq_ite]
 have key:∀ f:Int×Nat→Option (Int×Int),f (sgW w)=if w=[42] then f (6,5) else if w=[43] then f (7,4) else if w=[45] then f (8,4) else if w=[60] then f (9,3) else if w=[60,61] then f (10,3) else if w=[62] then f (11,3) else if w=[62,61] then f (12,3) else if w=[61,61] then f (13,3) else if w=[33,61] then f (14,3) else if w=[38,38] then f (15,2) else if w=[124,124] then f (16,1) else f (0,0):=fun f=>by
  unfold sgW
  simp only [apply_ite f]
 exact (key fun p=>some (p.1,(p.2:Int)-1)).symm
theorem back_prog (l:List Int):M123 l=some l:=rfl
def RsP (l:List Tok) (out:List Trm) (r:PR) (o:Option (Bool×List Tok×Int×List Trm)):Prop:=match r with
 | .ok b e=>o=some (true,l,(b:Int),out++e)
 | .bad k=>∃ out',o=some (false,l,(k:Int),out')
noncomputable abbrev bnR (d:Nat):=R63 (Rec63 d).2.1 (Rec63 d).1 M98 M97
noncomputable abbrev uaR (d:Nat):=R96 M98 (Rec63 d).2.2 M123
abbrev BnOK (l:List Tok) (d:Nat):Prop:=∀ (n a:Nat) (out:List Trm),1≤n→n≤6→16*(l.length-a)+2*(7-n)<d→a<l.length→out.length+(l.length-a)<200000→∃ r,PE l (.lv n a) r∧RsP l out r ((Rec63 d).1 ((n:Int)-1) l a out)
abbrev UaOK (l:List Tok) (d:Nat):Prop:=∀ (a:Nat) (out:List Trm),16*(l.length-a)<d→a<l.length→out.length+(l.length-a)<200000→∃ r,PE l (.un a) r∧RsP l out r ((Rec63 d).2.1 l a out)
abbrev AtOK (l:List Tok) (d:Nat):Prop:=∀ (a:Nat) (out:List Trm),16*(l.length-a)<d+3→a<l.length→out.length+(l.length-a)<200000→¬ isS l a [33]=true→¬ isS l a [45]=true→∃ r,PE l (.un a) r∧RsP l out r ((Rec63 d).2.2 l a out)
section
variable {l:List Tok}
theorem wordE_prog (hl:toksOK l) (hll:l.length<100000) {a:Nat} (ha:a<l.length) (hk:(tkD l a).1=2) (out:List Trm) (ho:out.length+(l.length-a)<200000):∃ r,PE l (.un a) r∧RsP l out r (M135 l a out):=by
 have h1:=qaz hl ha (Ty.dflt ty85) (by rw [show (l.getD a (Ty.dflt ty85)).1=2 from hk];decide)
 have hM:M135 l a out=T135 Ops.std M98 l a out some:=rfl
 rw [hM]
 unfold T135
 have hw1:IntKind.wrap IntKind.i64 ((a:Int)+1)=((a+1:Nat):Int):=qaj (by omega)
 simp only [qam,qap,qa2,qaa,qb3,qai,mt,List.length_cons,List.length_nil,hw1]
 rw [if_pos (by omega),qbk h1,ob_s]
 dsimp only
 rw [sgT_is (by decide)]
 have hpe:=pe_word hk
 cases hs:isS l (a+1) [64] with
 | false=>
   rw [if_neg (by rw [hs];decide)] at hpe
   simp only [Bool.not_false,cond_true]
   rw [if_pos (by omega)]
   exact ⟨_,hpe,rfl⟩
 | true=>
   rw [if_pos hs] at hpe
   have h2:=qaz hl h1 (Ty.dflt ty85) (by rw [show (l.getD (a+1) (Ty.dflt ty85)).1=4 from qc6 hs];decide)
   have hw2:IntKind.wrap IntKind.i64 (((a+1:Nat):Int)+1)=((a+2:Nat):Int):=qaj (by omega)
   have hw3:IntKind.wrap IntKind.i64 (((a+2:Nat):Int)+1)=((a+3:Nat):Int):=qaj (by omega)
   simp only [Bool.not_true,cond_false,hw2,hw3,qai]
   have hin:(0:Int)≤((a+2:Nat):Int)∧((a+2:Nat):Int)<(l.length:Int):=by omega
   simp only [if_pos hin]
   by_cases h3:(l.getD (a+2) (Ty.dflt ty85)).1=2
   ·rw [if_pos h3] at hpe
    rw [if_neg (fun h=>h h3),if_pos (by omega)]
    exact ⟨_,hpe,rfl⟩
   ·rw [if_neg h3] at hpe
    rw [if_pos h3]
    exact ⟨_,hpe,_,rfl⟩
theorem atom_step (hl:toksOK l) (hll:l.length<100000) (d:Nat) (hb:BnOK l d):AtOK l (d+1):=fun a out hd ha ho n1 n2=>by
 show ∃ r,PE l (.un a) r∧RsP l out r (T122 Ops.std M135 M98 (Rec63 d).1 l a out some)
 unfold T122
 have hw1:IntKind.wrap IntKind.i64 ((a:Int)+1)=((a+1:Nat):Int):=qaj (by omega)
 simp only [qam,qap,qa2,qaa,qb3,qai,mt,List.length_cons,List.length_nil,hw1]
 rw [if_pos (by omega)]
 by_cases k1:(l.getD a (Ty.dflt ty85)).1=1
 ·rw [if_pos k1,if_pos (by omega)]
  exact ⟨_,pe_num k1,rfl⟩
 ·rw [if_neg k1]
  by_cases k2:(l.getD a (Ty.dflt ty85)).1=2
  ·rw [if_pos k2]
   obtain ⟨r,h1,h2⟩:=wordE_prog hl hll ha k2 out ho
   refine ⟨r,h1,?_⟩
   cases r with
   | ok b e=>
     have h2:M135 l a out=some (true,l,(b:Int),out++e):=h2
     rw [h2,ob_s]
     exact rfl
   | bad k=>
     obtain ⟨out',h2⟩:=h2
     rw [h2,ob_s]
     exact ⟨_,rfl⟩
  ·rw [if_neg k2,qbk ha,ob_s]
   dsimp only
   rw [sgT_is (by decide)]
   cases hs:isS l a [40] with
   | false=>
     simp only [Bool.not_false,cond_true]
     exact ⟨_,pe_none n1 n2 k1 k2 (by rw [hs];decide),_,rfl⟩
   | true=>
     simp only [Bool.not_true,cond_false,hw1]
     have h1:=qaz hl ha (Ty.dflt ty85) (by rw [qc6 hs];decide)
     obtain ⟨r,g1,g2⟩:=hb 1 (a+1) out (by omega) (by omega) (by omega) h1 (by omega)
     have e0:((1:Nat):Int)-1=0:=rfl
     rw [e0] at g2
     cases r with
     | bad k=>
       obtain ⟨out',g2⟩:=g2
       rw [g2,ob_s]
       exact ⟨_,pe_brab hs g1,_,rfl⟩
     | ok b e=>
       have g2:(Rec63 d).1 0 l ((a+1:Nat):Int) out=some (true,l,(b:Int),out++e):=g2
       have hbd:=g1.bd hl (Nat.le_refl 1) h1
       rw [g2,ob_s]
       dsimp only
       simp only [Bool.not_true,cond_false]
       rw [qbk hbd.2.1,ob_s]
       dsimp only
       rw [sgT_is (by decide)]
       refine ⟨_,pe_bra hs g1,?_⟩
       cases hs2:isS l b [41] with
       | false=>exact ⟨_,rfl⟩
       | true=>
         have:IntKind.wrap IntKind.i64 ((b:Int)+1)=((b+1:Nat):Int):=qaj (by have:=hbd.2.1;omega)
         rw [this]
         exact rfl
theorem qet (hll:l.length<100000) (d:Nat) (p0:List Tok) (p1:Int) (p2:List Trm) (b:Nat):∀ (ops:List Int) (m:Nat) (rest:List Int) (out:List Trm),ops.length<m→out.length+ops.length<1000000→
  uaR d p0 p1 p2 m (.l1012 ((ops.length:Nat)-1) l b out (ops.reverse++rest))=some (true,l,(b:Int),out++ops.map fun n=>(n,0,[],[]))
 | ops,0,rest,out,hm,ho=>by omega
 | [],m+1,rest,out,hm,ho=>by
  show T96 Ops.std _ _ _ p0 p1 p2 _ some _=_
  unfold T96
  simp only [qal,qaa]
  rw [if_pos (by simp)]
  simp
 | x::ops,m+1,rest,out,hm,ho=>by
   have ih:=qet hll d p0 p1 p2 b ops m (x::rest) (out++[(x,0,[],[])]) (by simpa using hm) (by simp at ho ⊢;omega)
   show T96 Ops.std _ _ _ p0 p1 p2 _ some _=_
   unfold T96
   simp only [qal,qa2,qaa,mt]
   have hi:(((x::ops).length:Nat):Int)-1=(ops.length:Nat):=by simp
   rw [hi,if_neg (by omega),if_pos (by simp;omega),qai]
   have hg:((x::ops).reverse++rest).getD ops.length 0=x:=by
    rw [List.reverse_cons,List.append_assoc]
    have:=qa5 ops.reverse x rest 0
    rw [List.length_reverse] at this
    exact this
   rw [hg,if_pos (by simp only [List.length_cons,List.length_nil];simp at ho;omega)]
   rw [List.reverse_cons,List.append_assoc]
   rw [List.map_cons]
   have e:out++((x,0,[],[])::ops.map fun n=>((n,0,[],[]):Trm))=out++[(x,0,[],[])]++ops.map fun n=>(n,0,[],[]):=by simp
   rw [e]
   exact ih
theorem qc8 (hl:toksOK l) (hll:l.length<100000) (d:Nat) (hat:AtOK l d) (p0:List Tok) (p1:Int) (p2:List Trm):∀ (t a m:Nat) (ops:List Int) (out:List Trm),l.length-a≤t→200000+t<m→16*(l.length-a)<d+3→a<l.length→ops.length+out.length+(l.length-a)<200000→
  ∃ r,PE l (.un a) r∧(match r with
    | .ok b e=>uaR d p0 p1 p2 m (.l0 l a ops out)=some (true,l,(b:Int),out++e++ops.reverse.map fun n=>(n,0,[],[]))
    | .bad k=>∃ out',uaR d p0 p1 p2 m (.l0 l a ops out)=some (false,l,(k:Int),out'))
 | t,a,0,ops,out,ht,hm,hd,ha,ho=>by omega
 | 0,a,m+1,ops,out,ht,hm,hd,ha,ho=>by omega
 | t+1,a,m+1,ops,out,ht,hm,hd,ha,ho=>by
   have hU:uaR d p0 p1 p2 (m+1) (.l0 l a ops out)=T96 Ops.std M98 (Rec63 d).2.2 M123 p0 p1 p2 (uaR d p0 p1 p2 m) some (some (.l0 l a ops out)):=rfl
   rw [hU]
   unfold T96
   have hw1:IntKind.wrap IntKind.i64 ((a:Int)+1)=((a+1:Nat):Int):=qaj (by omega)
   simp only [qam,qap,qa2,qal,qaa,qb3,qai,mt,List.length_cons,List.length_nil,qbk ha,ob_s,hw1,sgT_is (l:=l) (a:=a) (w:=[33]) (by decide),sgT_is (l:=l) (a:=a) (w:=[45]) (by decide)]
   cases hs1:isS l a [33] with
   | true=>
     simp only [cond_true]
     rw [if_pos (by omega)]
     have h1:=qaz hl ha (Ty.dflt ty85) (by rw [qc6 hs1];decide)
     obtain ⟨r,g1,g2⟩:=qc8 hl hll d hat p0 p1 p2 t (a+1) m (ops++[4]) out (by omega) (by omega) (by omega) h1 (by simp;omega)
     cases r with
     | ok b e=>
       refine ⟨_,pe_not hs1 g1,g2.trans ?_⟩
       simp
     | bad k=>exact ⟨_,pe_notb hs1 g1,g2⟩
   | false=>
     simp only [cond_false]
     cases hs2:isS l a [45] with
     | true=>
       simp only [cond_true]
       rw [if_pos (by omega)]
       have h1:=qaz hl ha (Ty.dflt ty85) (by rw [qc6 hs2];decide)
       obtain ⟨r,g1,g2⟩:=qc8 hl hll d hat p0 p1 p2 t (a+1) m (ops++[5]) out (by omega) (by omega) (by omega) h1 (by simp;omega)
       cases r with
       | ok b e=>
         refine ⟨_,pe_neg hs2 g1,g2.trans ?_⟩
         simp
       | bad k=>exact ⟨_,pe_negb hs2 g1,g2⟩
     | false=>
       simp only [cond_false]
       obtain ⟨r,g1,g2⟩:=hat a out hd ha (by omega) (by rw [hs1];decide) (by rw [hs2];decide)
       refine ⟨r,g1,?_⟩
       cases r with
       | bad k=>
         obtain ⟨out',g2⟩:=g2
         rw [g2,ob_s]
         exact ⟨_,rfl⟩
       | ok b e=>
         have g2:(Rec63 d).2.2 l (a:Int) out=some (true,l,(b:Int),out++e):=g2
         have hbd:=g1.bd hl (by show 1≤6;omega) ha
         have hb1:a<b:=hbd.1
         have hb3:e.length≤b-a:=hbd.2.2.1
         have hb2:b<l.length:=hbd.2.1
         rw [g2,ob_s]
         dsimp only
         simp only [Bool.not_true,cond_false,back_prog,ob_s]
         have:=qet hll d p0 p1 p2 b ops.reverse m [] (out++e) (by simp;omega) (by simp;omega)
         simp only [List.reverse_reverse,List.append_nil,List.length_reverse] at this
         exact this
theorem qbx (hl:toksOK l) (hll:l.length<100000) (d n:Nat) (h1:1≤n) (h6:n≤5) (p1:List Tok) (p2:Int) (p3:List Trm) (hb:∀ (a:Nat) (out:List Trm),16*(l.length-a)+2*(6-n)<d→a<l.length→out.length+(l.length-a)<200000→∃ r,PE l (.lv (n+1) a) r∧RsP l out r ((Rec63 d).1 (n:Int) l a out)):∀ (t b m:Nat) (out e:List Trm),l.length-b≤t→t<m→16*(l.length-b)+2*(6-n)<d→b<l.length→out.length+e.length+(l.length-b)<200000→
  ∃ r,PE l (.lp n b e) r∧RsP l out r (bnR d ((n:Int)-1) p1 p2 p3 m (.l0 l b (out++e)))
 | t,b,0,out,e,ht,hm,hd,hbl,ho=>by omega
 | 0,b,m+1,out,e,ht,hm,hd,hbl,ho=>by omega
 | t+1,b,m+1,out,e,ht,hm,hd,hbl,ho=>by
   have hU:bnR d ((n:Int)-1) p1 p2 p3 (m+1) (.l0 l b (out++e))=T63 Ops.std (Rec63 d).2.1 (Rec63 d).1 M98 M97 ((n:Int)-1) p1 p2 p3 (bnR d ((n:Int)-1) p1 p2 p3 m) some (some (.l0 l b (out++e))):=rfl
   rw [hU]
   unfold T63
   have hw1:IntKind.wrap IntKind.i64 ((b:Int)+1)=((b+1:Nat):Int):=qaj (by omega)
   have hwn:IntKind.wrap IntKind.i64 ((n:Int)-1+1)=(n:Int):=by rw [wrap64 (by omega) (by omega)];omega
   simp only [qam,qap,qa2,qal,qaa,qb3,qai,mt,List.length_cons,List.length_nil,qbk hbl,ob_s,hw1,hwn,op_prog,sgT_op]
   by_cases hs:(sgE l b).2=n
   ·have ho3:=sgE_op hs h1
    rw [if_neg (by omega)]
    have hb1:=qaz hl hbl (Ty.dflt ty85) (by rw [show (l.getD b (Ty.dflt ty85)).1=4 from ho3.2.2];decide)
    obtain ⟨r,g1,g2⟩:=hb (b+1) (out++e) (by omega) hb1 (by simp;omega)
    cases r with
    | bad k=>
      obtain ⟨out',g2⟩:=g2
      rw [g2,ob_s]
      exact ⟨_,pe_lpbad hs g1,_,rfl⟩
    | ok c e2=>
      have g2:(Rec63 d).1 (n:Int) l ((b+1:Nat):Int) (out++e)=some (true,l,(c:Int),out++e++e2):=g2
      have hbd:=g1.bd hl (by show 1≤n+1;omega) hb1
      have hc1:b+1<c:=hbd.1
      have hc2:c<l.length:=hbd.2.1
      have hc3:e2.length≤c-(b+1):=hbd.2.2.1
      rw [g2,ob_s]
      dsimp only
      simp only [Bool.not_true,cond_false]
      rw [if_pos (by simp only [List.length_append];omega)]
      by_cases h3:n=3
      ·subst h3
       rw [if_pos (by decide)]
       refine ⟨_,pe_three hs g1,?_⟩
       show some _=some _
       simp
      ·rw [if_neg (by omega)]
       obtain ⟨r,j1,j2⟩:=qbx hl hll d n h1 h6 p1 p2 p3 hb t c m out (e++e2++[((sgE l b).1,0,[],[])]) (by omega) (by omega) (by omega) hc2 (by simp;omega)
       refine ⟨r,pe_more h3 hs g1 j1,?_⟩
       have ea:out++(e++e2++[((sgE l b).1,0,[],[])])=out++e++e2++[((sgE l b).1,0,[],[])]:=by simp
       rw [ea] at j2
       exact j2
   ·rw [if_pos (by omega)]
    exact ⟨_,pe_stop hs,rfl⟩
theorem parser_ok (hl:toksOK l) (hll:l.length<100000):∀ d,BnOK l d∧UaOK l d∧AtOK l d
 | 0=>⟨fun n a out _ _ h _ _=>(by omega),fun a out h _ _=>(by omega),fun a out h ha _ _ _=>(by omega)⟩
 | d+1=>by
   obtain ⟨hb,hu,hat⟩:=parser_ok hl hll d
   refine ⟨fun n a out h1 h6 hd ha ho=>?_,fun a out hd ha ho=>?_,atom_step hl hll d hb⟩
   ·show ∃ r,PE l (.lv n a) r∧RsP l out r (T63 Ops.std (Rec63 d).2.1 (Rec63 d).1 M98 M97 ((n:Int)-1) l a out (bnR d ((n:Int)-1) l a out 1000000) some none)
    unfold T63
    have hwn:IntKind.wrap IntKind.i64 ((n:Int)-1+1)=(n:Int):=by rw [wrap64 (by omega) (by omega)];omega
    simp only [qap,qaa,hwn]
    by_cases hn:n=6
    ·subst hn
     rw [if_pos (by decide)]
     obtain ⟨r,g1,g2⟩:=hu a out (by omega) ha ho
     refine ⟨r,pe_six g1,?_⟩
     cases r with
     | bad k=>
       obtain ⟨out',g2⟩:=g2
       rw [g2,ob_s]
       exact ⟨_,rfl⟩
     | ok b e=>
       have g2:(Rec63 d).2.1 l (a:Int) out=some (true,l,(b:Int),out++e):=g2
       rw [g2,ob_s]
       exact rfl
    ·rw [if_neg (by omega)]
     have hsub:∀ (a:Nat) (out:List Trm),16*(l.length-a)+2*(6-n)<d→a<l.length→out.length+(l.length-a)<200000→∃ r,PE l (.lv (n+1) a) r∧RsP l out r ((Rec63 d).1 (n:Int) l a out):=fun a out h2 h3 h4=>by
      have:=hb (n+1) a out (by omega) (by omega) (by omega) h3 h4
      have e:((n+1:Nat):Int)-1=(n:Int):=by omega
      rw [e] at this
      exact this
     obtain ⟨r,g1,g2⟩:=hsub a out (by omega) ha ho
     cases r with
     | bad k=>
       obtain ⟨out',g2⟩:=g2
       rw [g2,ob_s]
       exact ⟨_,pe_bad hn g1,_,rfl⟩
     | ok b e=>
       have g2:(Rec63 d).1 (n:Int) l (a:Int) out=some (true,l,(b:Int),out++e):=g2
       have hbd:=g1.bd hl (by show 1≤n+1;omega) ha
       have hc1:a<b:=hbd.1
       have hc2:b<l.length:=hbd.2.1
       have hc3:e.length≤b-a:=hbd.2.2.1
       rw [g2,ob_s]
       obtain ⟨r,j1,j2⟩:=qbx hl hll d n h1 (by omega) l a out hsub (l.length-b) b 1000000 out e (by omega) (by omega) (by omega) hc2 (by omega)
       exact ⟨r,pe_lv hn g1 j1,j2⟩
   ·show ∃ r,PE l (.un a) r∧RsP l out r (T96 Ops.std M98 (Rec63 d).2.2 M123 l a out (uaR d l a out 1000000) some none)
    unfold T96
    obtain ⟨r,g1,g2⟩:=qc8 hl hll d hat l a out (l.length-a) a 1000000 [] out (by omega) (by omega) (by omega) ha (by simp;omega)
    refine ⟨r,g1,?_⟩
    cases r with
    | bad k=>exact g2
    | ok b e=>
      refine g2.trans ?_
      simp
def takeR (a:Nat):PR→Int×Int×List Trm
 | .ok b e=>if 30<e.length then ((a:Int),13,[]) else ((b:Int),0,e)
 | .bad k=>((k:Int),2,[])
theorem ended_prog (hl:toksOK l) (hll:l.length<100000) {a:Nat} (ha:a<l.length):M62 l a=some true:=by
 show T62 Ops.std l a some=_
 unfold T62
 have hw:IntKind.wrap IntKind.i64 (((l.length:Nat):Int)-1)=((l.length-1:Nat):Int):=by rw [wrap64 (by omega) (by omega)];omega
 simp only [qam,qap,qbt,qal,qaa,hw,qai]
 rw [if_pos (by omega),if_pos (by omega),if_pos (by omega)]
 rcases (toks_at hl (i:=l.length-1) (by omega) (Ty.dflt ty85)).1 with h | h
 ·omega
 ·rw [h];rfl
theorem take_prog (hl:toksOK l) (hll:l.length≤60001) {a:Nat} (ha:a<l.length):∃ r,PE l (.lv 1 a) r∧M25 l a=some (takeR a r):=by
 obtain ⟨r,g1,g2⟩:=(parser_ok hl (by omega) 1000000).1 1 a [] (by omega) (by omega) (by omega) ha (by simp;omega)
 refine ⟨r,g1,?_⟩
 show T25 Ops.std M62 M63 l a some=_
 unfold T25
 simp only [qal,qaa,ended_prog hl (by omega:l.length<100000) ha,ob_s,Bool.not_true,cond_false,mt]
 cases r with
 | bad k=>
   obtain ⟨out',g2⟩:=g2
   have g2:M63 0 l (a:Int) []=some (false,l,(k:Int),out'):=g2
   rw [g2,ob_s]
   exact rfl
 | ok b e=>
   have g2:M63 0 l (a:Int) []=some (true,l,(b:Int),[]++e):=g2
   rw [g2,ob_s]
   simp only [List.nil_append,Bool.not_true,cond_false,takeR]
   by_cases h:30<e.length
   ·rw [if_pos (by omega),if_pos h]
   ·rw [if_neg (by omega),if_neg h]
def parseR (l:List Tok) (y:Int×Int×List Trm):Int×Int×List Trm:=
 if y.2.1=0 then (if (tkD l y.1.toNat).1=5 then (0,0,y.2.2) else (2,(tkD l y.1.toNat).2.2.2,[])) else (y.2.1,(tkD l y.1.toNat).2.2.2,[])
theorem takeR_in (hl:toksOK l) {a:Nat} (ha:a<l.length) {r:PR} (h:PE l (.lv 1 a) r):∃ (k:Nat) (e:Int) (x:List Trm),takeR a r=((k:Int),e,x)∧k<l.length:=by
 have hbd:=h.bd hl (Nat.le_refl 1) ha
 cases r with
 | ok b e=>
   by_cases h30:30<e.length
   ·exact ⟨a,13,[],if_pos h30,ha⟩
   ·exact ⟨b,0,e,if_neg h30,hbd.2.1⟩
 | bad k=>exact ⟨k,2,[],rfl,hbd.2⟩
end
def ParseIs (s:List UInt8) (y:Int×Int×List Trm):Prop:=
 (∃ (e x:Int) (l:List Tok),lexS s=(e,x,l)∧e≠0∧y=(e,x,[]))∨∃ (x:Int) (l:List Tok) (r:PR),lexS s=(0,x,l)∧PE l (.lv 1 0) r∧y=parseR l (takeR 0 r)
theorem ParseIs.det {s:List UInt8} {y y':Int×Int×List Trm} (h:ParseIs s y) (h':ParseIs s y'):y=y':=by
 rcases h with ⟨e,x,l,h1,h2,rfl⟩ | ⟨x,l,r,h1,h2,rfl⟩<;>rcases h' with ⟨e',x',l',g1,g2,rfl⟩ | ⟨x',l',r',g1,g2,rfl⟩
 ·rw [h1] at g1;cases g1;rfl
 ·rw [h1] at g1;cases g1;exact absurd rfl h2
 ·rw [h1] at g1;cases g1;exact absurd rfl g2
 ·rw [h1] at g1;cases g1;rw [h2.det g2]
theorem qc9 (s:List UInt8):∃ y,ParseIs s y∧M17 s=some y:=by
 have hM:M17 s=T17 Ops.std M29 M25 s some:=rfl
 rw [hM]
 unfold T17
 rw [lex_prog,ob_s]
 simp only [qap,qam,qb3,qaa,mt]
 generalize hr:lexS s=y
 obtain ⟨e,x,l⟩:=y
 dsimp only
 by_cases he:e=0
 ·subst he
  obtain ⟨hl,hlen,hs⟩:=lexS_ok hr
  have hp:=toks_len hl
  obtain ⟨r,g1,g2⟩:=take_prog hl (by omega) hp
  refine ⟨_,.inr ⟨x,l,r,hr,g1,rfl⟩,?_⟩
  obtain ⟨k,e,z,g3,g4⟩:=takeR_in hl hp g1
  rw [g3] at g2
  rw [g3]
  have g2:M25 l 0=some ((k:Int),e,z):=g2
  rw [if_neg (by simp),g2,ob_s]
  unfold parseR
  dsimp only
  simp only [qai]
  have hin:(0:Int)≤(k:Int)∧(k:Int)<(l.length:Int):=by omega
  simp only [if_pos hin]
  by_cases h0:e=0
  ·subst h0
   simp only [if_true,not_true_eq_false,if_false]
   by_cases h5:(l.getD k (Ty.dflt ty85)).1=5
   ·rw [if_neg (fun h=>h h5),if_pos h5]
   ·rw [if_pos h5,if_neg h5,if_pos (by decide)]
  ·rw [if_neg h0,if_pos h0,if_neg h0]
 ·rw [if_pos he]
  exact ⟨_,.inl ⟨e,x,l,hr,he,rfl⟩,rfl⟩
section
variable {l:List Tok}
end
theorem known8_ok:M14=some true:=by kernel_rfl
theorem parseR_e {l:List Tok} {k e:Int} {x:List Trm} (h:e≠0):parseR l (k,e,x)=(e,(tkD l k.toNat).2.2.2,[]):=if_neg h
theorem ParseIs.good {s:List UInt8} {y:Int×Int×List Trm} (h:ParseIs s y):(y.1=0∧∃ t:Et,t.wf∧y.2.2=t.flat∧t.flat.length≤30)∨(y.1≠0∧y.2.2=[]):=by
 rcases h with ⟨e,x,l,h1,h2,rfl⟩ | ⟨x,l,r,h1,h2,rfl⟩
 ·exact .inr ⟨h2,rfl⟩
 ·obtain ⟨hl,hlen,hs⟩:=lexS_ok h1
  have hbd:=h2.bd hl (Nat.le_refl 1) (toks_len hl)
  cases r with
  | bad k=>
    have e:parseR l (takeR 0 (.bad k))=(2,(tkD l (k:Int).toNat).2.2.2,[]):=parseR_e (by decide)
    rw [e]
    exact .inr ⟨by show (2:Int)≠0;decide,rfl⟩
  | ok b e=>
    by_cases h30:30<e.length
    ·have:takeR 0 (.ok b e)=(0,13,[]):=if_pos h30
     rw [this,parseR_e (by decide)]
     exact .inr ⟨by show (13:Int)≠0;decide,rfl⟩
    ·have:takeR 0 (.ok b e)=((b:Int),0,e):=if_neg h30
     rw [this]
     unfold parseR
     rw [if_pos rfl]
     by_cases h5:(tkD l ((b:Int)).toNat).1=5
     ·rw [if_pos h5]
      obtain ⟨t,t1,t2,t3⟩:=rightE_tree (hbd.2.2.2.right (by omega))
      exact .inl ⟨rfl,t,t1,t2,by rw [←t2];exact t3⟩
     ·rw [if_neg h5]
      exact .inr ⟨by show (2:Int)≠0;decide,rfl⟩
theorem wordLen {w:List UInt8} (h:isWordP w=true):w.length≤8:=by
 cases w with
 | nil=>simp
 | cons b r=>
   simp only [isWordP,Bool.and_eq_true,decide_eq_true_eq] at h
   simpa using h.2
theorem mayLen {t:Trm} (h:mayT t=true):t.2.2.1.length≤8∧t.2.2.2.length≤8:=by
 unfold mayT at h
 split at h
 ·simp only [Bool.and_eq_true,beq_iff_eq] at h
  rw [h.1.2,h.2];simp
 ·split at h
  ·simp only [Bool.and_eq_true,beq_iff_eq] at h
   rw [h.2];exact ⟨wordLen h.1.2,by simp⟩
  ·split at h
   ·simp only [Bool.and_eq_true] at h
    exact ⟨wordLen h.1.2,wordLen h.2⟩
   ·simp only [Bool.and_eq_true,beq_iff_eq] at h
    rw [h.1.2,h.2];simp
def dgT (n:Int):List UInt8:=(itoaF n).getD []
theorem itoa_is {n:Int} (h:0≤n∧n≤999):itoaF n=some (dgT n):=by
 unfold dgT itoaF
 rw [decide_eq_true h.1,decide_eq_true (show n<1000 by omega)]
 rfl
theorem dgT_len (n:Int):(dgT n).length≤3:=by
 unfold dgT itoaF
 cases decide (0≤n) && decide (n<1000) with
 | false=>exact Nat.zero_le _
 | true=>
   cases decide (n<10) with
   | true=>exact (show 1≤3 by decide)
   | false=>
     cases decide (n<100) with
     | true=>exact (show 2≤3 by decide)
     | false=>exact (show 3≤3 by decide)
def leafW (t:Trm):List UInt8:=if t.1=1 then dgT t.2.1 else if t.1=2 then t.2.2.1 else t.2.2.1++[64]++t.2.2.2
def brW (b:Bool) (s:List UInt8):List UInt8:=if b then [40]++s++[41] else s
def Et.prx:Et→List UInt8
 | .nul t=>leafW t
 | .un k x=>unW k++brW (decide (x.lv<6)) x.prx
 | .bi k x y=>brW (decide (x.lv<lfO (lvO k))) x.prx++opW k++brW (decide (y.lv<lvO k+1)) y.prx
theorem opW_len (k:Int):(opW k).length≤2:=by unfold opW;(repeat' split)<;>decide
theorem unW_len (k:Int):(unW k).length=1:=by unfold unW;split<;>rfl
theorem qda (b:Bool) (s:List UInt8):(brW b s).length≤s.length+2:=by cases b<;>simp [brW]
theorem leafW_len {t:Trm} (h:mayT t=true):(leafW t).length≤17:=by
 have h8:=mayLen h
 have h3:=dgT_len t.2.1
 unfold leafW
 (repeat' split)
 ·omega
 ·omega
 ·simp;omega
theorem Et.prx_len:∀ (t:Et),t.wf→t.prx.length≤20*t.flat.length
 | .nul t,h=>by have:=leafW_len h.1;simp only [Et.prx,Et.flat,List.length_cons,List.length_nil];omega
 | .un k x,h=>by
   have h1:=x.prx_len h.2
   have h2:=qda (decide (x.lv<6)) x.prx
   have h3:=unW_len k
   simp only [Et.prx,Et.flat,List.length_append,List.length_cons,List.length_nil]
   omega
 | .bi k x y,h=>by
   have h1:=x.prx_len h.2.1
   have h1':=y.prx_len h.2.2
   have h2:=qda (decide (x.lv<lfO (lvO k))) x.prx
   have h2':=qda (decide (y.lv<lvO k+1)) y.prx
   have h3:=opW_len k
   simp only [Et.prx,Et.flat,List.length_append,List.length_cons,List.length_nil]
   omega
theorem brk_prog (s:List UInt8) (n m:Int) (hs:s.length≤1000000):M52 s n m=some (brW (decide (n<m)) s):=by
 show T52 Ops.std s n m some=_
 unfold T52
 simp only [qal,qa2,qaa]
 by_cases h:n<m
 ·rw [if_pos h,if_pos (by omega),if_pos (by simp;omega),decide_eq_true h];rfl
 ·rw [if_neg h,decide_eq_false h];rfl
theorem both_tab {k:Int} (h:6≤k∧k≤16) (a b:List UInt8) (la lb:Int):M53 k a la b lb=ob (M52 a la ((lfO (lvO k):Nat)-1)) fun y2=>cond (decide ((y2.length+(opW k).length)*1≤140737488355328)) (ob (M52 b lb (lvO k:Nat)) fun y3=>cond (decide (((y2++opW k).length+y3.length)*1≤140737488355328)) (some (y2++opW k++y3,((lvO k:Nat):Int)-1)) none) none:=by
 rcases qcp h with rfl | rfl | rfl | rfl | rfl | rfl | rfl | rfl | rfl | rfl | rfl
 all_goals kernel_rfl
theorem both_prog {k:Int} (h:6≤k∧k≤16) (a b:List UInt8) (la lb:Int) (ha:a.length≤1000000) (hb:b.length≤1000000):M53 k a la b lb=some (brW (decide (la<(lfO (lvO k):Nat)-1)) a++opW k++brW (decide (lb<(lvO k:Nat))) b,((lvO k:Nat):Int)-1):=by
 have h1:=qda (decide (la<(lfO (lvO k):Nat)-1)) a
 have h2:=qda (decide (lb<(lvO k:Nat))) b
 have h3:=opW_len k
 rw [both_tab h,brk_prog a _ _ ha,ob_s,brk_prog b _ _ hb,ob_s,decide_eq_true (by omega),decide_eq_true (by simp only [List.length_append];omega)]
 rfl
theorem qdr {t:Trm} (h:mayT t=true) (h1:t.1=1):0≤t.2.1∧t.2.1≤999:=by
 unfold mayT at h
 rw [if_pos h1] at h
 simp only [Bool.and_eq_true,decide_eq_true_eq] at h
 exact ⟨h.1.1.1,h.1.1.2⟩
abbrev Sdt:=List UInt8×Int
noncomputable abbrev prP (e:List Trm):=R20 M22 M50 M51 M52 M53 e
section
variable {e:List Trm}
theorem prP_nul (i m:Nat) (st:List Sdt) (t:Trm) (hi:i<e.length) (hx:e.getD i (Ty.dflt ty56)=t) (ht:nulT t) (hl:e.length≤30) (hs:st.length≤100):prP e (m+1) (.l0 (e.length:Nat) i st)=prP e m (.l0 (e.length:Nat) ((i+1:Nat):Int) (st++[(leafW t,6)])):=by
 have hop:=ht.op
 obtain ⟨hm,hk⟩:=ht
 have h8:=mayLen hm
 have hU:prP e (m+1) (.l0 (e.length:Nat) i st)=T20 Ops.std M22 M50 M51 M52 M53 e (prP e m) some (some (.l0 (e.length:Nat) i st)):=rfl
 rw [hU]
 unfold T20
 have hw:IntKind.wrap IntKind.i64 ((st.length:Int)-0)=((st.length:Nat):Int):=by rw [wrap64 (by omega) (by omega)];omega
 simp only [qal,qam,qap,qa2,qaa,qai,hx,mt,List.length_cons,List.length_nil,qcl,ob_s,hop,hw,List.take_length,show IntKind.wrap IntKind.i64 ((i:Int)+1)=((i+1:Nat):Int) from qaj (by omega)]
 rw [if_pos (by omega),if_pos (by omega)]
 have hin:(0:Int)≤((st.length:Nat):Int)∧((st.length:Nat):Int)<((st.length+1:Nat):Int):=by omega
 rcases hk with h1 | h2 | h3
 ·have hn:M51 t.2.1=some (dgT t.2.1):=itoa_is (qdr hm h1)
  rw [if_pos h1,hn,ob_s,if_pos hin,if_pos (by omega)]
  unfold leafW
  rw [if_pos h1]
 ·rw [if_neg (by omega),if_pos h2,if_pos hin,if_pos (by omega)]
  unfold leafW
  rw [if_neg (by omega),if_pos h2]
 ·rw [if_neg (by omega),if_neg (by omega),if_pos h3,if_pos (by omega),if_pos (by simp;omega),if_pos hin,if_pos (by omega)]
  unfold leafW
  rw [if_neg (by omega),if_neg (by omega)]
theorem prP_un (i m:Nat) (st:List Sdt) (k:Int) (s:List UInt8) (n:Int) (hi:i<e.length) (hx:e.getD i (Ty.dflt ty56)=(k,0,[],[])) (hk:k=4∨k=5) (hl:e.length≤30) (hs:st.length≤100) (hs2:s.length≤1000):prP e (m+1) (.l0 (e.length:Nat) i (st++[(s,n)]))=prP e m (.l0 (e.length:Nat) ((i+1:Nat):Int) (st++[(unW k++brW (decide (n<5)) s,5)])):=by
 have hop:=opE_un hk
 have hb:=qda (decide (n<5)) s
 have hU:prP e (m+1) (.l0 (e.length:Nat) i (st++[(s,n)]))=T20 Ops.std M22 M50 M51 M52 M53 e (prP e m) some (some (.l0 (e.length:Nat) i (st++[(s,n)]))):=rfl
 rw [hU]
 unfold T20
 have hlen:(st++[(s,n)]).length=st.length+1:=by simp
 have hw:IntKind.wrap IntKind.i64 (((st++[(s,n)]).length:Int)-1)=((st.length:Nat):Int):=by rw [hlen,wrap64 (by omega) (by omega)];omega
 have hg:(st++[(s,n)]).getD st.length (Ty.dflt ty88)=(s,n):=qa5 st (s,n) [] _
 have htk:(st++[(s,n)]).take st.length=st:=List.take_left
 simp only [qal,qam,qap,qa2,qaa,qai,hx,mt,List.length_cons,List.length_nil,qcl,ob_s,hop,hw,hg,htk,brk_prog s n 5 (by omega),show IntKind.wrap IntKind.i64 ((i:Int)+1)=((i+1:Nat):Int) from qaj (by omega)]
 rw [if_pos (by omega),if_pos (by omega),if_neg (by omega),if_neg (by omega),if_neg (by omega)]
 have hin:(0:Int)≤((st.length:Nat):Int)∧((st.length:Nat):Int)<(((st++[(s,n)]).length:Nat):Int):=by omega
 have hin2:(0:Int)≤((st.length:Nat):Int)∧((st.length:Nat):Int)<(((st++[(s,n)]).length+1:Nat):Int):=by omega
 rcases hk with rfl | rfl
 ·rw [if_pos rfl,if_pos hin,if_pos (by omega),if_pos hin2,if_pos (by omega)]
  rfl
 ·rw [if_neg (by decide),if_pos rfl,if_pos hin,if_pos (by omega),if_pos hin2,if_pos (by omega)]
  rfl
theorem prP_bi (i m:Nat) (st:List Sdt) (k:Int) (a b:List UInt8) (la lb:Int) (hi:i<e.length) (hx:e.getD i (Ty.dflt ty56)=(k,0,[],[])) (hk:6≤k∧k≤16) (hl:e.length≤30) (hs:st.length≤100) (ha:a.length≤1000) (hb:b.length≤1000):prP e (m+1) (.l0 (e.length:Nat) i (st++[(a,la),(b,lb)]))=prP e m (.l0 (e.length:Nat) ((i+1:Nat):Int) (st++[(brW (decide (la<(lfO (lvO k):Nat)-1)) a++opW k++brW (decide (lb<(lvO k:Nat))) b,((lvO k:Nat):Int)-1)])):=by
 have hop:=opE_bi hk
 have hU:prP e (m+1) (.l0 (e.length:Nat) i (st++[(a,la),(b,lb)]))=T20 Ops.std M22 M50 M51 M52 M53 e (prP e m) some (some (.l0 (e.length:Nat) i (st++[(a,la),(b,lb)]))):=rfl
 rw [hU]
 unfold T20
 have hlen:(st++[(a,la),(b,lb)]).length=st.length+2:=by simp
 have hw:IntKind.wrap IntKind.i64 (((st++[(a,la),(b,lb)]).length:Int)-2)=((st.length:Nat):Int):=by rw [hlen,wrap64 (by omega) (by omega)];omega
 have hw1:IntKind.wrap IntKind.i64 (((st.length:Nat):Int)+1)=((st.length+1:Nat):Int):=qaj (by omega)
 have hg:(st++[(a,la),(b,lb)]).getD st.length (Ty.dflt ty88)=(a,la):=qa5 st (a,la) [(b,lb)] _
 have hg1:(st++[(a,la),(b,lb)]).getD (st.length+1) (Ty.dflt ty88)=(b,lb):=by
  simp
 have htk:(st++[(a,la),(b,lb)]).take st.length=st:=List.take_left
 simp only [qal,qam,qap,qa2,qaa,qai,hx,mt,List.length_cons,List.length_nil,qcl,ob_s,hop,hw,hw1,hg,hg1,htk,both_prog hk a b la lb (by omega) (by omega),show IntKind.wrap IntKind.i64 ((i:Int)+1)=((i+1:Nat):Int) from qaj (by omega)]
 rw [if_pos (by omega),if_pos (by omega),if_neg (by omega),if_neg (by omega),if_neg (by omega),if_neg (by omega),if_neg (by omega),if_pos (by omega),if_pos (by omega),if_pos (by omega),if_pos (by omega)]
theorem qds (hl:e.length≤30):∀ (t:Et),t.wf→∀ (pre rest:List Trm) (st:List Sdt) (m:Nat),e=pre++(t.flat++rest)→st.length+t.flat.length≤40→
  prP e (m+t.flat.length) (.l0 (e.length:Nat) (pre.length:Nat) st)=prP e m (.l0 (e.length:Nat) ((pre.length+t.flat.length:Nat):Int) (st++[(t.prx,((t.lv:Nat):Int)-1)]))
 | .nul t,h,pre,rest,st,m,he,hs=>by
   have hx:e.getD pre.length (Ty.dflt ty56)=t:=by rw [he];exact qa5 pre t rest _
   exact prP_nul pre.length m st t (by rw [he];simp [Et.flat]) hx h hl (by omega)
 | .un k x,h,pre,rest,st,m,he,hs=>by
   have hf:(Et.un k x).flat.length=x.flat.length+1:=by simp [Et.flat]
   have he1:e=pre++(x.flat++((k,0,[],[])::rest)):=by rw [he];simp [Et.flat]
   have ih:=qds hl x h.2 pre _ st (m+1) he1 (by omega)
   have hel:e.length=pre.length+(x.flat.length+(rest.length+1)):=by rw [he1];simp
   have hx:e.getD (pre.length+x.flat.length) (Ty.dflt ty56)=(k,0,[],[]):=by
    rw [he1,←List.append_assoc,←List.length_append];exact qa5 _ _ rest _
   have hlen:=x.prx_len h.2
   rw [hf,show m+(x.flat.length+1)=m+1+x.flat.length by omega,ih,prP_un _ m st k x.prx _ (by omega) hx h.1 hl (by omega) (by omega)]
   have hd:decide (((x.lv:Nat):Int)-1<5)=decide (x.lv<6):=by congr 1;exact propext ⟨fun h=>by omega,fun h=>by omega⟩
   rw [hd]
   rfl
 | .bi k x y,h,pre,rest,st,m,he,hs=>by
   have hf:(Et.bi k x y).flat.length=x.flat.length+y.flat.length+1:=by simp [Et.flat];omega
   have he1:e=pre++(x.flat++(y.flat++((k,0,[],[])::rest))):=by rw [he];simp [Et.flat]
   have hel:e.length=pre.length+(x.flat.length+(y.flat.length+(rest.length+1))):=by rw [he1];simp
   have ih:=qds hl x h.2.1 pre _ st (m+1+y.flat.length) he1 (by omega)
   have ih2:=qds hl y h.2.2 (pre++x.flat) ((k,0,[],[])::rest) (st++[(x.prx,((x.lv:Nat):Int)-1)]) (m+1) (by rw [he1];simp) (by simp;omega)
   rw [List.length_append] at ih2
   have hx:e.getD (pre.length+x.flat.length+y.flat.length) (Ty.dflt ty56)=(k,0,[],[]):=by
    rw [he1,←List.append_assoc,←List.append_assoc,←List.length_append,←List.length_append];exact qa5 _ _ rest _
   have hlen:=x.prx_len h.2.1
   have hlen2:=y.prx_len h.2.2
   have hst:st++[(x.prx,((x.lv:Nat):Int)-1)]++[(y.prx,((y.lv:Nat):Int)-1)]=st++[(x.prx,((x.lv:Nat):Int)-1),(y.prx,((y.lv:Nat):Int)-1)]:=by simp
   rw [hf,show m+(x.flat.length+y.flat.length+1)=m+1+y.flat.length+x.flat.length by omega,ih,ih2,hst,prP_bi _ m st k x.prx y.prx _ _ (by omega) hx h.1 hl (by omega) (by omega) (by omega)]
   have hd:decide (((x.lv:Nat):Int)-1<(lfO (lvO k):Nat)-1)=decide (x.lv<lfO (lvO k)):=by congr 1;exact propext ⟨fun h=>by omega,fun h=>by omega⟩
   have hd2:decide (((y.lv:Nat):Int)-1<(lvO k:Nat))=decide (y.lv<lvO k+1):=by congr 1;exact propext ⟨fun h=>by omega,fun h=>by omega⟩
   rw [hd,hd2,show pre.length+x.flat.length+y.flat.length+1=pre.length+(x.flat.length+y.flat.length+1) by omega]
   rfl
end
theorem print_prog {t:Et} (h:t.wf) (hl:t.flat.length≤30):M20 t.flat=some t.prx:=by
 show T20 Ops.std M22 M50 M51 M52 M53 t.flat (prP t.flat 1000000) some none=_
 unfold T20
 rw [rightE_prog t.flat (by omega),ob_s,tree_rightE h hl]
 simp only [Bool.not_true,cond_false]
 have:=qds (e:=t.flat) hl t h [] [] [] (1000000-t.flat.length) (by simp) (by simp;omega)
 rw [show 1000000-t.flat.length+t.flat.length=1000000 by omega] at this
 refine Eq.trans this ?_
 obtain ⟨m,hm⟩:∃ m,1000000-t.flat.length=m+1:=⟨1000000-t.flat.length-1,by omega⟩
 rw [hm]
 have hU:∀ (i:Int) (st:List Sdt),prP t.flat (m+1) (.l0 (t.flat.length:Nat) i st)=T20 Ops.std M22 M50 M51 M52 M53 t.flat (prP t.flat m) some (some (.l0 (t.flat.length:Nat) i st)):=fun _ _=>rfl
 rw [hU]
 unfold T20
 simp only [qal,qam,qaa]
 rw [if_neg (by simp),if_pos (by simp)]
 rfl
def hdOK (s:List UInt8):Prop:=∃ (d:UInt8) (q:List UInt8),s=d::q∧d≠61∧d≠62
theorem hdOK.app {s:List UInt8} (h:hdOK s) (r:List UInt8):hdOK (s++r):=by
 obtain ⟨d,q,rfl,h⟩:=h
 exact ⟨d,q++r,rfl,h⟩
theorem lx_digits {w:List UInt8} (r:List UInt8) (hw:w≠[]) (hd:w.all digitP'=true) (hl:w.length≤3) (hr:noWord r):LexTo w r [(1,w,valW w)]:=by
 cases w with
 | nil=>exact absurd rfl hw
 | cons b w=>
   have hb:digitP' b=true:=by simp only [List.all_cons,Bool.and_eq_true] at hd;exact hd.1
   have hk:blankP b=false:=by
    have:=qbi hb
    unfold blankP
    rw [decide_eq_false (by omega),decide_eq_false (by omega),decide_eq_false (by omega)];rfl
   refine LexTo.tok ?_ hk
   have ht:(b::(w++r)).takeWhile digitP'=b::w:=by
    have:=tw_app (p:=digitP') (b::w) r hd (fun c q e=>by
     have:=hr c q e
     simp only [wordP,Bool.or_eq_false_iff] at this
     exact this.2)
    exact this
   simp only [tokS,hb,ht,if_true]
   rw [if_pos hl]
theorem lx_wrd {w:List UInt8} (r:List UInt8) (hw:isWordP w=true) (hr:noWord r):LexTo w r [(2,w,0)]:=by
 cases w with
 | nil=>cases hw
 | cons b w=>
   have h8:=wordLen hw
   simp only [List.length_cons] at h8
   simp only [isWordP,Bool.and_eq_true,decide_eq_true_eq] at hw
   obtain ⟨⟨h1,h2⟩,h3⟩:=hw
   have hn:digitP' b=false:=by
    unfold lowerP at h1
    unfold digitP'
    simp only [Bool.or_eq_true,Bool.and_eq_true,decide_eq_true_eq] at h1
    rw [Bool.and_eq_false_iff]
    simp only [decide_eq_false_iff_not]
    omega
   have hk:blankP b=false:=by
    unfold lowerP at h1
    simp only [Bool.or_eq_true,Bool.and_eq_true,decide_eq_true_eq] at h1
    unfold blankP
    rw [decide_eq_false (by omega),decide_eq_false (by omega),decide_eq_false (by omega)];rfl
   exact lx_word r h1 hn hk h2 (by omega) hr
theorem qdb {c:UInt8} {r:List UInt8} (h:c=42∨c=43):signS (c::r)=[c]:=by
 have h2:twos.find? (fun p=>decide (1<(c::r).length) && ((c::r).take 2 == p))=none:=by
  rw [List.find?_eq_none]
  intro p hp
  simp only [twos,List.mem_cons,List.not_mem_nil,or_false] at hp
  rcases h with h | h<;>subst h<;>rcases hp with hp | hp | hp | hp | hp | hp | hp<;>subst hp<;>simp
 unfold signS
 rw [h2]
 rcases h with h | h<;>subst h<;>simp [ones]
theorem signS_min {d:UInt8} {r:List UInt8} (hd:d≠62):signS (45::d::r)=[45]:=by
 have h2:twos.find? (fun p=>decide (1<(45::d::r).length) && ((45::d::r).take 2 == p))=none:=by
  rw [List.find?_eq_none]
  intro p hp
  simp only [twos,List.mem_cons,List.not_mem_nil,or_false] at hp
  rcases hp with hp | hp | hp | hp | hp | hp | hp<;>subst hp<;>simp [hd]
 unfold signS
 rw [h2]
 simp [ones]
theorem lx_min {d:UInt8} (r:List UInt8) (hd:d≠62):LexTo [45] (d::r) [(4,[45],0)]:=LexTo.tok (s:=[]) (qaw rfl rfl rfl (signS_min hd) (by simp)) rfl
theorem lx_free {c:UInt8} (r:List UInt8) (h:c=42∨c=43):LexTo [c] r [(4,[c],0)]:=by
 have hs:=qdb (r:=r) h
 rcases h with h | h<;>subst h<;>exact LexTo.tok (s:=[]) (qaw rfl rfl rfl hs (by simp)) rfl
theorem lx_op {k:Int} (hk:6≤k∧k≤16) {s:List UInt8} (hs:hdOK s):LexTo (opW k) s [(4,opW k,0)]:=by
 obtain ⟨d,q,rfl,h1,h2⟩:=hs
 rcases qcp hk with rfl | rfl | rfl | rfl | rfl | rfl | rfl | rfl | rfl | rfl | rfl
 ·exact lx_free _ (.inl rfl)
 ·exact lx_free _ (.inr rfl)
 ·exact lx_min _ h2
 ·exact qc7 _ (.inr (.inl rfl)) h1
 ·exact qbw (p:=[60,61]) _ (by simp)
 ·exact qc7 _ (.inr (.inr rfl)) h1
 ·exact qbw (p:=[62,61]) _ (by simp)
 ·exact qbw (p:=[61,61]) _ (by simp)
 ·exact qbw (p:=[33,61]) _ (by simp)
 ·exact qbw (p:=[38,38]) _ (by simp)
 ·exact qbw (p:=[124,124]) _ (by simp)
theorem lx_un {k:Int} (hk:k=4∨k=5) {s:List UInt8} (hs:hdOK s):LexTo (unW k) s [(4,unW k,0)]:=by
 obtain ⟨d,q,rfl,h1,h2⟩:=hs
 rcases hk with rfl | rfl
 ·exact qc7 _ (.inl rfl) h1
 ·exact lx_min _ h2
theorem noWord.op {k:Int} (hk:6≤k∧k≤16) (r:List UInt8):noWord (opW k++r):=by
 rcases qcp hk with rfl | rfl | rfl | rfl | rfl | rfl | rfl | rfl | rfl | rfl | rfl<;>exact noWord.cons rfl
def Et.dx:Et→De
 | .nul t=>.nul t (leafW t)
 | .un k x=>.un k (if x.lv<6 then .bra x.dx else x.dx)
 | .bi k x y=>.bi k (if x.lv<lfO (lvO k) then .bra x.dx else x.dx) (if y.lv<lvO k+1 then .bra y.dx else y.dx)
theorem dx_lv (t:Et):t.dx.lv=t.lv:=by cases t<;>rfl
theorem dx_ok:∀ t:Et,t.wf→t.dx.ok
 | .nul t,h=>h
 | .un k x,h=>by
   have ih:=dx_ok x h.2
   have hl:=dx_lv x
   refine ⟨h.1,?_,?_⟩
   ·split
    ·show 6≤7;omega
    ·omega
   ·split<;>exact ih
 | .bi k x y,h=>by
   have ih:=dx_ok x h.2.1
   have ih2:=dx_ok y h.2.2
   have hl:=dx_lv x
   have hl2:=dx_lv y
   have h5:=lvO_le k
   have hlf:lfO (lvO k)≤7:=by unfold lfO;split<;>omega
   refine ⟨h.1,?_,?_,?_,?_⟩
   ·split
    ·show _≤7;omega
    ·omega
   ·split
    ·show _≤7;omega
    ·omega
   ·split<;>exact ih
   ·split<;>exact ih2
theorem qec:∀ t:Et,t.dx.tree=t
 | .nul t=>rfl
 | .un k x=>by
   have:(if x.lv<6 then De.bra x.dx else x.dx).tree=x.dx.tree:=by split<;>rfl
   simp only [Et.dx,De.tree,this,qec x]
 | .bi k x y=>by
   have h1:(if x.lv<lfO (lvO k) then De.bra x.dx else x.dx).tree=x.dx.tree:=by split<;>rfl
   have h2:(if y.lv<lvO k+1 then De.bra y.dx else y.dx).tree=y.dx.tree:=by split<;>rfl
   simp only [Et.dx,De.tree,h1,h2,qec x,qec y]
theorem dgT_ok:(List.range 1000).all (fun n=>decide (valW (dgT (n:Int))=(n:Int)) && ((dgT (n:Int)).all digitP' && !(dgT (n:Int)).isEmpty))=true:=by kernel_rfl
theorem dgT_is {n:Int} (h:0≤n∧n≤999):valW (dgT n)=n∧(dgT n).all digitP'=true∧dgT n≠[]:=by
 obtain ⟨k,rfl⟩:∃ k:Nat,n=(k:Int):=⟨n.toNat,by omega⟩
 have:=List.all_eq_true.1 dgT_ok k (List.mem_range.2 (by omega))
 simp only [Bool.and_eq_true,decide_eq_true_eq,Bool.not_eq_true'] at this
 exact ⟨this.1,this.2.1,fun e=>by rw [e] at this;simp at this⟩
theorem low_hd {b:UInt8} (h:lowerP b=true):b≠61∧b≠62:=by
 unfold lowerP at h
 simp only [Bool.or_eq_true,Bool.and_eq_true,decide_eq_true_eq] at h
 constructor<;>(intro e;subst e;revert h;decide)
theorem word_hd {w:List UInt8} (h:isWordP w=true):hdOK w:=by
 cases w with
 | nil=>cases h
 | cons b w=>
   simp only [isWordP,Bool.and_eq_true] at h
   exact ⟨b,w,rfl,low_hd h.1.1⟩
theorem digits_hd {w:List UInt8} (h:w.all digitP'=true) (h0:w≠[]):hdOK w:=by
 cases w with
 | nil=>exact absurd rfl h0
 | cons b w=>
   simp only [List.all_cons,Bool.and_eq_true] at h
   have:=qbi h.1
   exact ⟨b,w,rfl,fun e=>by subst e;exact absurd this (by decide),fun e=>by subst e;exact absurd this (by decide)⟩
theorem nulT_2 {t:Trm} (h:nulT t) (h2:t.1=2):isWordP t.2.2.1=true:=by
 obtain ⟨hm,_⟩:=h
 unfold mayT at hm
 rw [if_neg (by omega),if_pos h2] at hm
 simp only [Bool.and_eq_true] at hm
 exact hm.1.2
theorem nulT_3 {t:Trm} (h:nulT t) (h3:t.1=3):isWordP t.2.2.1=true∧isWordP t.2.2.2=true:=by
 obtain ⟨hm,_⟩:=h
 unfold mayT at hm
 rw [if_neg (by omega),if_neg (by omega),if_pos h3] at hm
 simp only [Bool.and_eq_true] at hm
 exact ⟨hm.1.2,hm.2⟩
theorem leaf_hd {t:Trm} (h:nulT t):hdOK (leafW t):=by
 unfold leafW
 split
 ·rename_i h1
  obtain ⟨d1,d2,d3⟩:=dgT_is (qdr h.1 h1)
  exact digits_hd d2 d3
 ·split
  ·rename_i h2
   exact word_hd (nulT_2 h h2)
  ·have h3:t.1=3:=by have:=h.2;omega
   exact ((word_hd (nulT_3 h h3).1).app _).app _
theorem leaf_lex {t:Trm} (h:nulT t) (r:List UInt8) (hr:noWord r):LexTo (leafW t) r (nulK t (leafW t)):=by
 by_cases h1:t.1=1
 ·obtain ⟨d1,d2,d3⟩:=dgT_is (qdr h.1 h1)
  have e:leafW t=dgT t.2.1:=if_pos h1
  have e2:nulK t (leafW t)=[(1,leafW t,t.2.1)]:=if_pos h1
  rw [e2,e]
  have:=lx_digits r d3 d2 (dgT_len _) hr
  rw [d1] at this
  exact this
 ·by_cases h2:t.1=2
  ·have e:leafW t=t.2.2.1:=by unfold leafW;rw [if_neg h1,if_pos h2]
   have e2:nulK t (leafW t)=[(2,t.2.2.1,0)]:=by unfold nulK;rw [if_neg h1,if_pos h2]
   rw [e2,e]
   exact lx_wrd r (nulT_2 h h2) hr
  ·have h3:t.1=3:=by have:=h.2;omega
   have e:leafW t=t.2.2.1++([64]++t.2.2.2):=by unfold leafW;rw [if_neg h1,if_neg h2,List.append_assoc]
   have e2:nulK t (leafW t)=[(2,t.2.2.1,0)]++([(4,[64],0)]++[(2,t.2.2.2,0)]):=by unfold nulK;rw [if_neg h1,if_neg h2];rfl
   rw [e2,e]
   exact (lx_wrd _ (nulT_3 h h3).1 (noWord.cons rfl)).app ((qdj _ (by simp)).app (lx_wrd r (nulT_3 h h3).2 hr))
theorem brW_hd {b:Bool} {s:List UInt8} (h:hdOK s):hdOK (brW b s):=by
 cases b with
 | true=>exact ⟨40,s++[41],rfl,by decide,by decide⟩
 | false=>exact h
theorem prx_hd:∀ t:Et,t.wf→hdOK t.prx
 | .nul t,h=>leaf_hd h
 | .un k x,h=>by
   rcases h.1 with rfl | rfl<;>exact ⟨_,_,rfl,by decide,by decide⟩
 | .bi k x y,h=>((brW_hd (prx_hd x h.2.1)).app _).app _
theorem qed {d:De} {s:List UInt8} {b:Prop} [Decidable b] (h:∀ r,noWord r→LexTo s r d.toks) (r:List UInt8) (hr:noWord r):LexTo (brW (decide b) s) r (if b then De.bra d else d).toks:=by
 by_cases hb:b
 ·rw [decide_eq_true hb,if_pos hb]
  have e:brW true s=[40]++(s++[41]):=by simp [brW]
  rw [e]
  exact (qdj (c:=40) _ (by simp)).app ((h _ (noWord.cons rfl)).app (qdj (c:=41) r (by simp)))
 ·rw [decide_eq_false hb,if_neg hb]
  exact h r hr
theorem qee:∀ t:Et,t.wf→∀ r,noWord r→LexTo t.prx r t.dx.toks
 | .nul t,h,r,hr=>leaf_lex h r hr
 | .un k x,h,r,hr=>(lx_un h.1 ((brW_hd (prx_hd x h.2)).app r)).app (qed (qee x h.2) r hr)
 | .bi k x y,h,r,hr=>by
   have e:(Et.bi k x y).prx=brW (decide (x.lv<lfO (lvO k))) x.prx++(opW k++brW (decide (y.lv<lvO k+1)) y.prx):=by simp [Et.prx]
   have e2:(Et.bi k x y).dx.toks=(if x.lv<lfO (lvO k) then De.bra x.dx else x.dx).toks++([(4,opW k,0)]++(if y.lv<lvO k+1 then De.bra y.dx else y.dx).toks):=rfl
   rw [e,e2]
   refine (qed (qee x h.2.1) _ ?_).app ((lx_op h.1 ((brW_hd (prx_hd y h.2.2)).app r)).app (qed (qee y h.2.2) r hr))
   rw [List.append_assoc]
   exact noWord.op h.1 _
theorem preT_of:∀ (tks pre suf:List Tok),PreT (tks.map strip) (pre++(tks++suf)) pre.length
 | [],pre,suf=>trivial
 | t::tks,pre,suf=>by
   refine ⟨⟨by simp,?_⟩,?_⟩
   ·show strip (tkD (pre++t::(tks++suf)) pre.length)=strip t
    unfold tkD
    rw [qa5]
   ·have:=preT_of tks (pre++[t]) suf
    rw [List.append_assoc,List.length_append] at this
    exact this
theorem lex_all {s:List UInt8} {ts:List TokS} (h:LexTo s [] ts) (hl:s.length≤60000):∃ (tks:List Tok) (x:Int),lexS s=(0,0,tks++[(5,[],0,x)])∧tks.map strip=ts:=by
 obtain ⟨f',tks,h1,h2,h3⟩:=h (s.length+1) 0 [] (by simp)
 rw [List.append_nil] at h3
 obtain ⟨g,rfl⟩:∃ g,f'=g+1:=⟨f'-1,by simp at h2;omega⟩
 refine ⟨tks,((0+s.length:Nat):Int),?_,h1⟩
 unfold Av.lexS
 rw [if_neg (by omega),h3]
 rfl
theorem De.lv_pos (d:De):1≤d.lv:=by
 cases d with
 | bi k x y=>exact (lvO_le k).1
 | nul _ _=>show 1≤7;omega
 | un _ _=>show 1≤6;omega
 | bra _=>show 1≤7;omega
theorem De.parse2 {d:De} (hd:d.ok) {s:List UInt8} {tks:List Tok} {x:Int} (h1:lexS s=(0,0,tks++[(5,[],0,x)])) (h2:tks.map strip=d.toks):ParseIs s (if 30<d.tree.flat.length then (13,0,[]) else (0,0,d.tree.flat))∨∃ a:Int,ParseIs s (13,a,[])∧30<d.tree.flat.length:=by
 have hp:=preT_of tks [] [(5,[],0,x)]
 rw [h2] at hp
 have hn:tks.length=d.toks.length:=by rw [←h2];simp
 have hend:tkD (tks++[(5,[],0,x)]) (0+d.toks.length)=(5,[],0,x):=by
  rw [Nat.zero_add,←hn]
  exact qa5 tks _ [] _
 have hk:(tkD (tks++[(5,[],0,x)]) (0+d.toks.length)).1=5:=by rw [hend]
 have hs0:(sgE (tks++[(5,[],0,x)]) (0+d.toks.length)).2=0:=by
  unfold sgE
  rw [if_neg (by rw [hk];decide)]
 have hr:=(De.read (l:=tks++[(5,[],0,x)]) (fun _ _=>trivial) d hd 0 hp (qcm (by rw [hk];decide))).2.1 1 (Nat.le_refl 1) (by omega) d.lv_pos (by omega)
 by_cases h30:30<d.tree.flat.length
 ·refine .inr ⟨(tkD (tks++[(5,[],0,x)]) 0).2.2.2,.inr ⟨0,_,_,h1,hr,?_⟩,h30⟩
  have:takeR 0 (.ok (0+d.toks.length) d.tree.flat)=(0,13,[]):=if_pos h30
  rw [this]
  rfl
 ·rw [if_neg h30]
  refine .inl (.inr ⟨0,_,_,h1,hr,?_⟩)
  have:takeR 0 (.ok (0+d.toks.length) d.tree.flat)=(((0+d.toks.length:Nat):Int),0,d.tree.flat):=if_neg h30
  rw [this]
  unfold parseR
  dsimp only
  rw [if_pos rfl,qai,if_pos hk]
theorem De.parse {d:De} (hd:d.ok) {s:List UInt8} (h:LexTo s [] d.toks) (hl:s.length≤60000):ParseIs s (if 30<d.tree.flat.length then (13,0,[]) else (0,0,d.tree.flat))∨∃ a:Int,ParseIs s (13,a,[])∧30<d.tree.flat.length:=by
 obtain ⟨tks,x,h1,h2⟩:=lex_all h hl
 exact De.parse2 hd h1 h2
theorem prx_ascii:∀ t:Et,t.wf→∀ b∈t.prx,b.toNat<128:=by
 have wd:∀ {w:List UInt8},isWordP w=true→∀ b∈w,b.toNat<128:=fun {w} h b hb=>by
  have hw:wordP b=true:=by
   cases w with
   | nil=>cases hb
   | cons c w=>
     simp only [isWordP,Bool.and_eq_true] at h
     rcases List.mem_cons.1 hb with rfl | hb
     ·exact qb9 h.1.1
     ·exact List.all_eq_true.1 h.1.2 b hb
  unfold wordP lowerP digitP' at hw
  simp only [Bool.or_eq_true,Bool.and_eq_true,decide_eq_true_eq] at hw
  omega
 have br:∀ {c:Bool} {s:List UInt8},(∀ b∈s,b.toNat<128)→∀ b∈brW c s,b.toNat<128:=fun {c s} h b hb=>by
  cases c with
  | true=>
    simp only [brW,if_true,List.mem_append,List.mem_singleton] at hb
    rcases hb with (rfl | hb) | rfl
    ·decide
    ·exact h b hb
    ·decide
  | false=>exact h b hb
 intro t
 induction t with
 | nul t=>
   intro h b hb
   have hb:b∈leafW t:=hb
   unfold leafW at hb
   split at hb
   ·rename_i h1
    have:=qbi (List.all_eq_true.1 (dgT_is (qdr h.1 h1)).2.1 b hb)
    omega
   ·split at hb
    ·rename_i h2
     exact wd (nulT_2 h h2) b hb
    ·have h3:t.1=3:=by have:=h.2;omega
     simp only [List.mem_append,List.mem_singleton] at hb
     rcases hb with (hb | rfl) | hb
     ·exact wd (nulT_3 h h3).1 b hb
     ·decide
     ·exact wd (nulT_3 h h3).2 b hb
 | un k x ih=>
   intro h b hb
   simp only [Et.prx,List.mem_append] at hb
   rcases hb with hb | hb
   ·rcases h.1 with rfl | rfl
    ·have:b=33:=by simpa [unW] using hb
     subst this;decide
    ·have:b=45:=by simpa [unW] using hb
     subst this;decide
   ·exact br (ih h.2) b hb
 | bi k x y ihx ihy=>
   intro h b hb
   simp only [Et.prx,List.mem_append] at hb
   rcases hb with (hb | hb) | hb
   ·exact br (ihx h.2.1) b hb
   ·have:∀ c∈opW k,c.toNat<128:=by
     rcases qcp h.1 with rfl | rfl | rfl | rfl | rfl | rfl | rfl | rfl | rfl | rfl | rfl<;>decide
    exact this b hb
   ·exact br (ihy h.2.2) b hb
noncomputable abbrev eqR (a b:List Trm):=R65 a b
theorem qeu (a b:List Trm) (hl:a.length=b.length) (h1:a.length≤100000):∀ (t i n:Nat),i+t=a.length→t<n→a.take i=b.take i→∃ r:Bool,eqR a b n (.l0 (a.length:Nat) i)=some r∧(r=true↔a=b)
 | t,i,0,hi,hn,hp=>by omega
 | 0,i,n+1,hi,hn,hp=>by
   show ∃ r,T65 Ops.std a b _ some _=some r∧_
   unfold T65
   simp only [qal,qaa]
   rw [if_neg (by omega)]
   rw [List.take_of_length_le (by omega),List.take_of_length_le (by omega)] at hp
   exact ⟨true,rfl,fun _=>hp,fun _=>rfl⟩
 | t+1,i,n+1,hi,hn,hp=>by
   have ih:=qeu a b hl h1 t (i+1) n (by omega) (by omega)
   show ∃ r,T65 Ops.std a b _ some _=some r∧_
   unfold T65
   simp only [qal,qam,qap,qaa,qai,show IntKind.wrap IntKind.i64 ((i:Int)+1)=((i+1:Nat):Int) from qaj (by omega)]
   rw [if_pos (by omega),if_pos (by omega),if_pos (by omega)]
   have ha:a.getD i (Ty.dflt ty56)=a[i]:=by rw [List.getD_eq_getElem?_getD,List.getElem?_eq_getElem (by omega)];rfl
   have hb:b.getD i (Ty.dflt ty56)=b[i]:=by rw [List.getD_eq_getElem?_getD,List.getElem?_eq_getElem (by omega)];rfl
   rw [ha,hb]
   have ht:∀ x y:Trm,(decide (x.1=y.1) && (decide (x.2.1=y.2.1) && (x.2.2.1 == y.2.2.1 && (x.2.2.2 == y.2.2.2 && true))))=decide (x=y):=fun x y=>by
    obtain ⟨a,b,c,d⟩:=x
    obtain ⟨a',b',c',d'⟩:=y
    rw [Bool.eq_iff_iff]
    simp only [Bool.and_eq_true,decide_eq_true_eq,beq_iff_eq,Prod.mk.injEq,and_true]
   rw [ht]
   by_cases he:a[i]=b[i]
   ·rw [decide_eq_true he]
    simp only [Bool.not_true,cond_false]
    refine ih ?_
    rw [List.take_succ_eq_append_getElem (by omega),List.take_succ_eq_append_getElem (by omega),hp,he]
   ·rw [decide_eq_false he]
    refine ⟨false,rfl,fun h=>(by cases h),fun h=>?_⟩
    subst h
    exact absurd rfl he
theorem same_prog8 (a b:List Trm) (h1:a.length≤100000):∃ r:Bool,M27 a b=some r∧(r=true↔a=b):=by
 have key:∃ r:Bool,M65 a b=some r∧(r=true↔a=b):=by
  show ∃ r,T65 Ops.std a b (eqR a b 1000000) some none=some r∧_
  unfold T65
  simp only [qap,qb3,qaa]
  by_cases hl:a.length=b.length
  ·rw [if_neg (by omega)]
   exact qeu a b hl h1 a.length 0 1000000 (by omega) (by omega) rfl
  ·rw [if_pos (by omega)]
   exact ⟨false,rfl,fun h=>(by cases h),fun h=>absurd (congrArg List.length h) hl⟩
 obtain ⟨r,h1,h2⟩:=key
 refine ⟨r,?_,h2⟩
 show T27 Ops.std M65 a b some=_
 unfold T27
 rw [h1,ob_s]
section
variable {p0 p1:List Int} {t:Et} (ht:t.wf) (hl:t.flat.length≤30)
end
def freeB (c:UInt8):Bool:=c == 40 || (c == 41 || (c == 42 || (c == 43 || (c == 64 || (c == 91 || (c == 93 || c == 32))))))
def Bl:List UInt8→List UInt8→Prop
 | [],t=>t=[]
 | c::s,t=>∃ b1 b2 t',t=b1++(c::(b2++t'))∧b1.all blankP=true∧b2.all blankP=true∧(freeB c=false→b1=[]∧b2=[])∧Bl s t'
theorem Bl.snoc:∀ {s t:List UInt8} {c:UInt8} {b1 b2:List UInt8},Bl s t→b1.all blankP=true→b2.all blankP=true→(freeB c=false→b1=[]∧b2=[])→Bl (s++[c]) (t++(b1++[c]++b2))
 | [],t,c,b1,b2,h,h1,h2,h3=>by
  have h:t=[]:=h
  subst h
  exact ⟨b1,b2,[],by simp,h1,h2,h3,rfl⟩
 | d::s,t,c,b1,b2,h,h1,h2,h3=>by
   obtain ⟨e1,e2,t',rfl,g1,g2,g3,g4⟩:=h
   exact ⟨e1,e2,t'++(b1++[c]++b2),by simp,g1,g2,g3,Bl.snoc g4 h1 h2 h3⟩
theorem qca {c:UInt8} (h:freeB c=true):c=40∨c=41∨c=42∨c=43∨c=64∨c=91∨c=93∨c=32:=by
 unfold freeB at h
 simpa using h
theorem free_tok {c:UInt8} (h:freeB c=true) (hb:blankP c=false) (r:List UInt8):tokS (c::r)=some (4,[c],0):=by
 rcases qca h with h | h | h | h | h | h | h | h
 ·subst h;exact qaw rfl rfl rfl (qbj (by simp)) (by simp)
 ·subst h;exact qaw rfl rfl rfl (qbj (by simp)) (by simp)
 ·subst h;exact qaw rfl rfl rfl (qdb (by simp)) (by simp)
 ·subst h;exact qaw rfl rfl rfl (qdb (by simp)) (by simp)
 ·subst h;exact qaw rfl rfl rfl (qbj (by simp)) (by simp)
 ·subst h;exact qaw rfl rfl rfl (qbj (by simp)) (by simp)
 ·subst h;exact qaw rfl rfl rfl (qbj (by simp)) (by simp)
 ·subst h;cases hb
theorem tw_bl {p:UInt8→Bool} (hp:∀ c,p c=true→freeB c=false∧blankP c=false):∀ {s t:List UInt8},Bl s t→s.takeWhile p=t.takeWhile p∧Bl (s.drop (s.takeWhile p).length) (t.drop (s.takeWhile p).length)
 | [],t,h=>by
  have h:t=[]:=h
  subst h
  exact ⟨rfl,rfl⟩
 | c::s,t,h=>by
   have h0:=h
   obtain ⟨b1,b2,t',rfl,g1,g2,g3,g4⟩:=h
   cases hc:p c with
   | true=>
     obtain ⟨rfl,rfl⟩:=g3 (hp c hc).1
     obtain ⟨i1,i2⟩:=tw_bl hp g4
     rw [List.nil_append,List.nil_append,List.takeWhile_cons_of_pos hc,List.takeWhile_cons_of_pos hc,i1]
     refine ⟨rfl,?_⟩
     rw [List.length_cons,List.drop_succ_cons,List.drop_succ_cons,←i1]
     exact i2
   | false=>
     have e1:(c::s).takeWhile p=[]:=List.takeWhile_cons_of_neg (by rw [hc];decide)
     rw [e1]
     refine ⟨?_,h0⟩
     cases b1 with
     | nil=>rw [List.nil_append,List.takeWhile_cons_of_neg (by rw [hc];decide)]
     | cons b b1=>
       simp only [List.all_cons,Bool.and_eq_true] at g1
       have hpb:p b=false:=by
        cases hb:p b with
        | false=>rfl
        | true=>have:=(hp b hb).2;rw [this] at g1;cases g1.1
       rw [List.cons_append,List.takeWhile_cons_of_neg (by rw [hpb];decide)]
theorem digit_nf:∀ c,digitP' c=true→freeB c=false∧blankP c=false:=fun c h=>by
 have:=qbi h
 constructor
 ·cases hf:freeB c with
  | false=>rfl
  | true=>rcases qca hf with rfl | rfl | rfl | rfl | rfl | rfl | rfl | rfl<;>exact absurd this (by decide)
 ·unfold blankP
  rw [decide_eq_false (by omega),decide_eq_false (by omega),decide_eq_false (by omega)];rfl
theorem word_nf:∀ c,wordP c=true→freeB c=false∧blankP c=false:=fun c h=>by
 constructor
 ·cases hf:freeB c with
  | false=>rfl
  | true=>rcases qca hf with rfl | rfl | rfl | rfl | rfl | rfl | rfl | rfl<;>exact absurd h (by decide)
 ·unfold wordP lowerP digitP' at h
  simp only [Bool.or_eq_true,Bool.and_eq_true,decide_eq_true_eq] at h
  unfold blankP
  rw [decide_eq_false (by omega),decide_eq_false (by omega),decide_eq_false (by omega)];rfl
theorem qef {c e:UInt8} {r:List UInt8} (h:e≠61∧e≠38∧e≠124∧e≠62):signS (c::e::r)=signS [c]:=by
 have h2:twos.find? (fun p=>decide (1<(c::e::r).length) && ((c::e::r).take 2 == p))=none:=by
  rw [List.find?_eq_none]
  intro p hp
  simp only [twos,List.mem_cons,List.not_mem_nil,or_false] at hp
  rcases hp with hp | hp | hp | hp | hp | hp | hp<;>subst hp<;>simp [h]
 have h3:twos.find? (fun p=>decide (1 < [c].length) && ([c].take 2 == p))=none:=by
  rw [List.find?_eq_none]
  intro p hp
  simp
 unfold signS
 rw [h2,h3]
 rfl
theorem free_sec {d:UInt8} (h:freeB d=true):d≠61∧d≠38∧d≠124∧d≠62:=by
 rcases qca h with rfl | rfl | rfl | rfl | rfl | rfl | rfl | rfl<;>decide
theorem blank_sec {d:UInt8} (h:blankP d=true):d≠61∧d≠38∧d≠124∧d≠62:=by
 refine ⟨?_,?_,?_,?_⟩<;>(intro e;subst e;exact absurd h (by decide))
theorem sign_bl {c:UInt8} {s t:List UInt8} (h:Bl s t):signS (c::s)=signS (c::t)∧(2≤(signS (c::s)).length→∃ d s2 t2,s=d::s2∧t=d::t2∧Bl s2 t2):=by
 have one:(signS [c]).length≤1:=(qd8 [c]).2.1
 cases s with
 | nil=>
   have h:t=[]:=h
   subst h
   exact ⟨rfl,fun h2=>by omega⟩
 | cons d s2=>
   obtain ⟨b1,b2,t',rfl,g1,g2,g3,g4⟩:=h
   cases hf:freeB d with
   | true=>
     have e1:signS (c::d::s2)=signS [c]:=qef (free_sec hf)
     rw [e1]
     refine ⟨?_,fun h2=>by omega⟩
     cases b1 with
     | nil=>exact (qef (free_sec hf)).symm
     | cons b b1=>
       simp only [List.all_cons,Bool.and_eq_true] at g1
       exact (qef (blank_sec g1.1)).symm
   | false=>
     obtain ⟨rfl,rfl⟩:=g3 hf
     refine ⟨?_,fun _=>⟨d,s2,t',rfl,rfl,g4⟩⟩
     show signS (c::d::s2)=signS (c::d::t')
     have e2:∀ r:List UInt8,signS (c::d::r)=match twos.find? (fun p=>[c,d] == p) with
       | some p=>p
       | none=>match ones.find? (fun b=>[c] == [b]) with
         | some b=>[c]
         | none=>[]:=fun r=>by
      unfold signS
      have:(fun p=>decide (1<(c::d::r).length) && ((c::d::r).take 2 == p))=fun p=>[c,d] == p:=by
       funext p
       have:decide (1<(c::d::r).length)=true:=by simp
       rw [this]
       rfl
      rw [this]
      rfl
     rw [e2,e2]
theorem tok_bl {c:UInt8} {s t:List UInt8} (h:Bl s t) (hc:freeB c=false) {k n:Int} {w:List UInt8} (ht:tokS (c::s)=some (k,w,n)):tokS (c::t)=some (k,w,n)∧Bl ((c::s).drop w.length) ((c::t).drop w.length):=by
 have hbl:Bl (c::s) (c::t):=⟨[],[],t,by simp,rfl,rfl,fun _=>⟨rfl,rfl⟩,h⟩
 simp only [tokS] at ht ⊢
 by_cases hd:digitP' c=true
 ·rw [if_pos hd] at ht ⊢
  obtain ⟨e1,e2⟩:=tw_bl digit_nf hbl
  rw [←e1]
  refine ⟨ht,?_⟩
  split at ht
  ·cases ht;exact e2
  ·cases ht
 ·rw [if_neg hd] at ht ⊢
  by_cases hl:lowerP c=true
  ·rw [if_pos hl] at ht ⊢
   obtain ⟨e1,e2⟩:=tw_bl word_nf hbl
   rw [←e1]
   refine ⟨ht,?_⟩
   split at ht
   ·cases ht;exact e2
   ·cases ht
  ·rw [if_neg hl] at ht ⊢
   by_cases hlt:letterP c=true
   ·rw [if_pos hlt] at ht ⊢
    refine ⟨ht,?_⟩
    cases ht
    exact h
   ·rw [if_neg hlt] at ht ⊢
    obtain ⟨e1,e2⟩:=sign_bl (c:=c) h
    rw [←e1]
    refine ⟨ht,?_⟩
    split at ht
    ·cases ht
    ·rename_i hne
     cases ht
     have hl2:=(qd8 (c::s)).1
     have h0:(signS (c::s)).length≠0:=fun h=>hne (List.eq_nil_of_length_eq_zero h)
     by_cases h2:2≤(signS (c::s)).length
     ·obtain ⟨d,s2,t2,rfl,rfl,g⟩:=e2 h2
      have:(signS (c::d::s2)).length=2:=by omega
      rw [this]
      exact g
     ·have:(signS (c::s)).length=1:=by omega
      rw [this]
      exact h
theorem qcb:∀ (b r:List UInt8) (f a:Nat) (out:List Tok),b.all blankP=true→(b++r).length<f→∃ (f' a':Nat),lexGo f (b++r) a out=lexGo f' r a' out∧r.length<f'
 | [],r,f,a,out,_,hf=>⟨f,a,rfl,hf⟩
 | c::b,r,f,a,out,hb,hf=>by
   simp only [List.all_cons,Bool.and_eq_true] at hb
   obtain ⟨g,rfl⟩:∃ g,f=g+1:=⟨f-1,by omega⟩
   obtain ⟨f',a',h1,h2⟩:=qcb b r g (a+1) out hb.2 (by simp at hf ⊢;omega)
   refine ⟨f',a',?_,h2⟩
   rw [←h1]
   simp only [List.cons_append,lexGo,hb.1,if_true]
theorem qdt:∀ (f:Nat) (s t:List UInt8) (a a':Nat) (out out':List Tok) (f':Nat) (e x:Int) (l:List Tok),Bl s t→t.length<f'→out'.map strip=out.map strip→lexGo f s a out=(e,x,l)→e=0→∃ l',lexGo f' t a' out'=(0,0,l')∧l'.map strip=l.map strip
 | 0,s,t,a,a',out,out',f',e,x,l,hb,hf,ho,h,he=>by
   simp only [lexGo,Prod.mk.injEq] at h
   omega
 | f+1,[],t,a,a',out,out',f',e,x,l,hb,hf,ho,h,he=>by
   have hb:t=[]:=hb
   subst hb
   obtain ⟨g,rfl⟩:∃ g,f'=g+1:=⟨f'-1,by omega⟩
   simp only [lexGo,Prod.mk.injEq] at h
   obtain ⟨_,_,rfl⟩:=h
   exact ⟨_,rfl,by rw [List.map_append,List.map_append,ho];rfl⟩
 | f+1,c::s,t,a,a',out,out',f',e,x,l,hb,hf,ho,h,he=>by
   obtain ⟨b1,b2,t',rfl,g1,g2,g3,g4⟩:=hb
   obtain ⟨f1,a1,k1,k2⟩:=qcb b1 (c::(b2++t')) f' a' out' g1 hf
   rw [k1]
   obtain ⟨f2,rfl⟩:∃ g,f1=g+1:=⟨f1-1,by omega⟩
   simp only [List.length_cons] at k2
   simp only [lexGo] at h ⊢
   cases hbl:blankP c with
   | true=>
     rw [hbl,if_pos rfl] at h
     rw [if_pos rfl]
     obtain ⟨f3,a3,k3,k4⟩:=qcb b2 t' f2 (a1+1) out' g2 (by omega)
     rw [k3]
     exact qdt f s t' (a+1) a3 out out' f3 e x l g4 k4 ho h he
   | false=>
     rw [hbl,if_neg (by decide)] at h
     rw [if_neg (by decide)]
     cases hfr:freeB c with
     | true=>
       rw [free_tok hfr hbl] at h ⊢
       simp only [List.length_cons,List.length_nil,List.drop_succ_cons,List.drop_zero] at h ⊢
       obtain ⟨f3,a3,k3,k4⟩:=qcb b2 t' f2 (a1+1) (out'++[(4,[c],0,(a1:Int))]) g2 (by omega)
       rw [k3]
       exact qdt f s t' (a+1) a3 (out++[(4,[c],0,(a:Int))]) _ f3 e x l g4 k4 (by rw [List.map_append,List.map_append,ho];rfl) h he
     | false=>
       obtain ⟨rfl,rfl⟩:=g3 hfr
       rw [List.nil_append] at k2 ⊢
       cases ht:tokS (c::s) with
       | none=>
         rw [ht] at h
         simp only [Prod.mk.injEq] at h
         omega
       | some y=>
         obtain ⟨k,w,n⟩:=y
         rw [ht] at h
         obtain ⟨q1,q2⟩:=tok_bl g4 hfr ht
         have q3:=tok_len ht
         rw [q1]
         simp only at h ⊢
         refine qdt f _ _ (a+w.length) (a1+w.length) (out++[(k,w,n,(a:Int))]) _ f2 e x l q2 ?_ (by rw [List.map_append,List.map_append,ho];rfl) h he
         rw [List.length_drop,List.length_cons]
         omega
theorem lexS_bl {s t:List UInt8} (h:Bl s t) {x:Int} {l:List Tok} (hs:lexS s=(0,x,l)) (ht:t.length≤60000):∃ l',lexS t=(0,0,l')∧l'.map strip=l.map strip:=by
 unfold lexS at hs ⊢
 rw [if_neg (by omega)]
 split at hs
 ·cases hs
 ·exact qdt _ s t 0 0 [] [] (t.length+1) 0 x l h (by omega) rfl hs rfl
theorem bl_parse {t:Et} (h:t.wf) (hl:t.flat.length≤30) {q:List UInt8} (hb:Bl t.prx q) (hq:q.length≤60000):ParseIs q (0,0,t.flat):=by
 have hlen:=t.prx_len h
 obtain ⟨tks,x,h1,h2⟩:=lex_all (qee t h [] noWord.nil) (by omega)
 obtain ⟨l',h3,h4⟩:=lexS_bl hb h1 hq
 rw [List.map_append,h2] at h4
 obtain ⟨tks',l2,rfl,h5,h6⟩:=List.map_eq_append_iff.1 h4
 have:∃ x':Int,l2=[(5,[],0,x')]:=by
  cases l2 with
  | nil=>cases h6
  | cons y l3=>
    cases l3 with
    | nil=>
      simp only [List.map_cons,List.map_nil,List.cons.injEq,and_true] at h6
      obtain ⟨a,b,c,d⟩:=y
      have h6:((a,b,c):TokS)=(5,[],0):=h6
      cases h6
      exact ⟨d,rfl⟩
    | cons=>simp at h6
 obtain ⟨x',rfl⟩:=this
 have:=De.parse2 (dx_ok t h) h3 h5
 rw [qec,if_neg (by omega)] at this
 rcases this with h1 | ⟨_,_,h1⟩
 ·exact h1
 ·omega
theorem piece_eq {s:List UInt8} {i:Nat} (h:i<s.length):List.drop i (List.take (i+1) s)=[s.getD i 0]:=by
 rw [List.drop_take,qb8 0 h]
 have:i+1-i=1:=by omega
 rw [this]
 rfl
theorem bra2_parse {t:Et} (h:t.wf) (hl:t.flat.length≤30):ParseIs ([40,40]++t.prx++[41,41]) (0,0,t.flat):=by
 have hlen:=t.prx_len h
 have h1:∀ r,noWord r→LexTo (brW (decide True) t.prx) r (De.bra t.dx).toks:=fun r hr=>by
  have:=qed (b:=True) (qee t h) r hr
  rwa [if_pos trivial] at this
 have h2:=qed (b:=True) h1 [] noWord.nil
 rw [if_pos trivial] at h2
 have e:brW (decide True) (brW (decide True) t.prx)=[40,40]++t.prx++[41,41]:=by simp [brW]
 rw [e] at h2
 have:=De.parse (d:=.bra (.bra t.dx)) (dx_ok t h) h2 (by simp;omega)
 have ht:(De.bra (.bra t.dx)).tree=t:=qec t
 rw [ht,if_neg (by omega)] at this
 rcases this with h1 | ⟨_,_,h1⟩
 ·exact h1
 ·omega
theorem condT {X Y:Option Bool} {b:Bool} (h:b=true):cond b X Y=X:=by rw [h];rfl
theorem tb_blank (k:Nat) (hk:k<4):(List.getD ([]::([32]:List UInt8)::([9]:List UInt8)::([32,10]:List UInt8)::[]) k []).all blankP=true∧(List.getD ([]::([32]:List UInt8)::([9]:List UInt8)::([32,10]:List UInt8)::[]) k []).length≤2:=by
 match k,hk with
 | 0,_=>exact ⟨rfl,by decide⟩
 | 1,_=>exact ⟨rfl,by decide⟩
 | 2,_=>exact ⟨rfl,by decide⟩
 | 3,_=>exact ⟨rfl,by decide⟩
noncomputable abbrev blR (p0 p1:List Int):=R5 M14 M16 M17 M20 M24 M27 p0 p1
theorem blanks_l0 {p0 p1:List Int} {t:Et} (ht:t.wf) (hl:t.flat.length≤30) (q:Nat):∀ (pos m:Nat) (acc:List UInt8),pos+q=t.prx.length→q<m→Bl (t.prx.take pos) acc→acc.length≤5*pos→blR p0 p1 m (.l0 t.prx acc t.flat t.prx pos)=some true:=by
 have hlen:=t.prx_len ht
 induction q with
 | zero=>
   intro pos m acc hq hm hb ha
   obtain ⟨m,rfl⟩:∃ n,m=n+1:=⟨m-1,by omega⟩
   have hU:blR p0 p1 (m+1) (.l0 t.prx acc t.flat t.prx pos)=T5 Ops.std M14 M16 M17 M20 M24 M27 p0 p1 (blR p0 p1 m) some (some (.l0 t.prx acc t.flat t.prx pos)):=rfl
   rw [hU]
   unfold T5
   rw [List.take_of_length_le (by omega)] at hb
   obtain ⟨y,hy,hp⟩:=qc9 acc
   obtain ⟨z,hz,hpz⟩:=qc9 ([40,40]++t.prx++[41,41])
   have hyy:=hy.det (bl_parse ht hl hb (by omega))
   have hzz:=hz.det (bra2_parse ht hl)
   subst hyy
   subst hzz
   obtain ⟨r,r1,r2⟩:=same_prog8 t.flat t.flat (by omega)
   have hr:r=true:=r2.2 rfl
   simp only [qal,qap,qa2,qaa]
   rw [if_neg (by omega),hp,ob_s,if_pos (by omega),if_pos (by simp;omega),hpz,ob_s]
   dsimp only
   rw [if_pos rfl,if_pos rfl,r1,ob_s,hr]
   simp only [cond_true]
   rw [ob_s]
 | succ q ihq=>
   intro pos m acc hq hm hb ha
   obtain ⟨m,rfl⟩:∃ n,m=n+1:=⟨m-1,by omega⟩
   have hU:blR p0 p1 (m+1) (.l0 t.prx acc t.flat t.prx pos)=T5 Ops.std M14 M16 M17 M20 M24 M27 p0 p1 (blR p0 p1 m) some (some (.l0 t.prx acc t.flat t.prx pos)):=rfl
   rw [hU]
   unfold T5
   have hlt:pos<t.prx.length:=by omega
   have has:=prx_ascii t ht (t.prx.getD pos 0) (by rw [List.getD_eq_getElem?_getD,List.getElem?_eq_getElem hlt];exact List.getElem_mem _)
   have hw:IntKind.wrap IntKind.i64 ((pos:Int)+1)=((pos+1:Nat):Int):=qaj (by omega)
   have htk:t.prx.take (pos+1)=t.prx.take pos++[t.prx.getD pos 0]:=take_snoc t.prx pos hlt
   have nxt:∀ b:List UInt8,b.all blankP=true→b.length≤2→(freeB (t.prx.getD pos 0)=false→b=[])→blR p0 p1 m (.l0 t.prx (acc++b++[t.prx.getD pos 0]++b) t.flat t.prx (pos+1))=some true:=fun b h1 h2 h3=>by
    refine ihq (pos+1) m _ (by omega) (by omega) ?_ (by simp;omega)
    rw [htk]
    have:=hb.snoc (c:=t.prx.getD pos 0) h1 h1 (fun h=>⟨h3 h,h3 h⟩)
    simpa using this
   have hY:=nxt [] rfl (by decide) (fun _=>rfl)
   simp only [hw]
   simp only [qal,qbt,qam,qap,qa2,qaa,qai,piece_eq hlt,mt]
   rw [if_pos (by omega),if_pos (by omega),if_pos (by omega),if_pos (by omega)]
   refine (condT (decide_eq_true (show (pos:Int)≤((pos+1:Nat):Int) by omega))).trans ?_
   by_cases hp1:(pos:Int)<(p1.length:Int)
   ·rw [if_pos hp1]
    obtain ⟨k,hk,hpk⟩:=pickN (p1.getD pos (Ty.dflt ty3)) 4 (by omega) (by omega)
    obtain ⟨b1,b2⟩:=tb_blank k hk
    have hpk':M24 (p1.getD pos (Ty.dflt ty3)) 4=some (k:Int):=hpk
    simp only [hpk',ob_s,qai]
    generalize hbt:List.getD ([]::([32]:List UInt8)::([9]:List UInt8)::([32,10]:List UInt8)::[]) k []=bt at b1 b2
    have hX:freeB (t.prx.getD pos 0)=true→blR p0 p1 m (.l0 t.prx (acc++bt++[t.prx.getD pos 0]++bt) t.flat t.prx (pos+1))=some true:=fun h=>nxt bt b1 b2 (fun h2=>by rw [h] at h2;cases h2)
    have i1:(0:Int)≤(pos:Int)∧(pos:Int)<(p1.length:Int):=by omega
    have i2:(0:Int)≤(k:Int)∧(k:Int)<((4:Nat):Int):=by omega
    have l1:(acc.length+bt.length)*1≤140737488355328:=by omega
    have l2:((acc++bt).length+[t.prx.getD pos 0].length)*1≤140737488355328:=by simp only [List.length_append,List.length_cons,List.length_nil];omega
    have l3:((acc++bt++[t.prx.getD pos 0]).length+bt.length)*1≤140737488355328:=by simp only [List.length_append,List.length_cons,List.length_nil];omega
    have k1:(acc.length+([]:List UInt8).length)*1≤140737488355328:=by simp;omega
    have k2:((acc++[]).length+[t.prx.getD pos 0].length)*1≤140737488355328:=by simp;omega
    have k3:((acc++[]++[t.prx.getD pos 0]).length+([]:List UInt8).length)*1≤140737488355328:=by simp;omega
    simp only [if_pos i1,if_pos i2,if_pos l1,if_pos l2,if_pos l3,if_pos k1,if_pos k2,if_pos k3]
    have br:∀ (c:UInt8) {X Y:Option Bool},(t.prx.getD pos 0=c→X=some true)→Y=some true→cond ([t.prx.getD pos 0] == [c]) X Y=some true:=fun c {X Y} h1 h2=>by
     cases hc:([t.prx.getD pos 0] == [c]) with
     | true=>
       simp only [beq_iff_eq,List.cons.injEq,and_true] at hc
       exact h1 hc
     | false=>exact h2
    refine br 40 (fun h=>hX (by rw [h];rfl)) (br 41 (fun h=>hX (by rw [h];rfl)) (br 43 (fun h=>hX (by rw [h];rfl)) (br 42 (fun h=>hX (by rw [h];rfl)) (br 64 (fun h=>hX (by rw [h];rfl)) ?_))))
    exact hY
   ·rw [if_neg hp1]
    rw [if_pos (by simp;omega),if_pos (by simp;omega),if_pos (by simp;omega)]
    exact hY
theorem plainExprBlanks (p0 p1:List Int) (w0:Ty.wf ty22 p0) (w1:Ty.wf ty22 p1):M5 p0 p1=some true:=by
 have hM:M5 p0 p1=T5 Ops.std M14 M16 M17 M20 M24 M27 p0 p1 (blR p0 p1 1000000) some none:=rfl
 obtain ⟨s,hs,hsl⟩:=Expr_ok p0
 obtain ⟨y,hy,hp⟩:=qc9 s
 rw [hM]
 unfold T5
 simp only [known8_ok,ob_s,Bool.not_true,cond_false,hs,hp,qap,qb3,qaa]
 by_cases h0:y.1=0
 ·rw [if_neg (fun h=>h h0)]
  rcases hy.good with ⟨_,t,t1,t2,t3⟩ | ⟨h1,_⟩
  ·have hlen:=t.prx_len t1
   rw [t2,print_prog t1 t3,ob_s]
   exact blanks_l0 t1 t3 t.prx.length 0 1000000 [] (by omega) (by omega) rfl (by simp)
  ·exact absurd h0 h1
 ·rw [if_pos h0]
end Go.Proofs.YtkmpkebaloejhaaDoor.Av
