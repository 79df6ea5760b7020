/- The plain law of ExprTells: what its twin computes answers true. Conditions: none. -/
import Derived.Test.YtkmpkebaloejhaaDoorPExprTellsa
set_option linter.unusedSimpArgs false
set_option linter.unusedVariables false
set_option maxRecDepth 100000
namespace Go.Proofs.YtkmpkebaloejhaaDoor.Av
open Go
theorem run2_prog {p:UInt8→Bool} {c:Int→Option Bool} (hc:∀ b:UInt8,c (b.toNat:Int)=some (p b)) (s:List UInt8) (hs:s.length<900000):F178 c s=some (s.takeWhile p):=by
 have h:∀ (t i n:Nat),i+t=s.length→t<n→R178 c s n (.l0 i)=some (s.take i++(s.drop i).takeWhile p):=by
  intro t
  induction t with
  | zero=>
    intro i n hi hn
    cases n with
    | zero=>omega
    | succ n=>
      show T178 Ops.std c s _ some _=_
      unfold T178
      simp only [qai,qaj,qaa,qad]
      rw [if_neg (by omega),if_pos (by omega),List.drop_eq_nil_of_le (show s.length≤i by omega)]
      simp
  | succ t ih=>
    intro i n hi hn
    cases n with
    | zero=>omega
    | succ n=>
      have hlt:i<s.length:=by omega
      show T178 Ops.std c s _ some _=_
      unfold T178
      have hw:IntKind.wrap IntKind.i64 ((i:Int)+1)=((i+1:Nat):Int):=qae (by omega)
      simp only [qai,qaj,qaa,qad]
      rw [if_pos (by omega),if_pos (by omega),hc,ob_s,qb4 hlt]
      cases hp:p (s.getD i 0) with
      | true=>
        simp only [cond_true]
        rw [hw,ih (i+1) n (by omega) (by omega),List.takeWhile_cons_of_pos hp]
        have:s.take (i+1)=s.take i++[s.getD i 0]:=by
         rw [List.take_add_one]
         simp [List.getD_eq_getElem?_getD,List.getElem?_eq_getElem hlt]
        rw [this]
        simp
      | false=>
        simp only [cond_false]
        rw [if_pos (by omega),List.takeWhile_cons_of_neg (by rw [hp];decide)]
        simp
 show T178 Ops.std c s _ some none=_
 unfold T178
 have:=h s.length 0 1000000 (by omega) (by omega)
 rw [List.take_zero,List.drop_zero,List.nil_append] at this
 exact this
theorem runD_prog (s:List UInt8) (hs:s.length<900000):M178 s=some (s.takeWhile digitP'):=run2_prog qda s hs
theorem qez (l:List Int) (x:Int) (hl:l.length<900000):∀ (t i n:Nat),i+t=l.length→t<n→
  R101 l x n (.l0 l.length i)=some (if x∈l.drop i then ((i+(l.drop i).findIdx (fun y=>decide (x=y)):Nat):Int) else -1)
 | t,i,0,hi,hn=>by omega
 | 0,i,n+1,hi,hn=>by
   show T101 Ops.std l x _ some _=_
   unfold T101
   simp only [qai,qaa]
   rw [if_neg (by omega),List.drop_eq_nil_of_le (by omega)]
   simp
 | t+1,i,n+1,hi,hn=>by
   have ih:=qez l x hl t (i+1) n (by omega) (by omega)
   have hd:l.drop i=l.getD i 0::l.drop (i+1):=qba 0 (by omega)
   show T101 Ops.std l x _ some _=_
   unfold T101
   have hw:IntKind.wrap IntKind.i64 ((i:Int)+1)=((i+1:Nat):Int):=qae (by omega)
   simp only [qai,qaj,qan,qaa,qad,hw]
   rw [if_pos (by omega),if_pos (by omega),hd]
   have hdf:l.getD i (Ty.dflt ty5)=l.getD i 0:=rfl
   rw [hdf]
   by_cases hx:x=l.getD i 0
   ·rw [if_pos hx,if_pos (by rw [hx];exact List.mem_cons_self ..),List.findIdx_cons,decide_eq_true hx,qcn]
    simp
   ·rw [if_neg hx]
    refine Eq.trans ih ?_
    rw [List.findIdx_cons]
    have:decide (x=l.getD i 0)=false:=decide_eq_false hx
    rw [this,qco]
    simp only [List.mem_cons,hx,false_or]
    by_cases hm:x∈l.drop (i+1)
    ·rw [if_pos hm,if_pos hm];congr 1;omega
    ·rw [if_neg hm,if_neg hm]
theorem qcu (l:List Int) (x:Int) (hl:l.length<900000):M66 l x=some (decide (x∈l)):=by
 have h0:=qez l x hl l.length 0 1000000 (by omega) (by omega)
 have h:M101 l x=some (if x∈l.drop 0 then ((0+(l.drop 0).findIdx (fun y=>decide (x=y)):Nat):Int) else -1):=by
  show T101 Ops.std l x (R101 l x 1000000) some none=_
  unfold T101
  exact h0
 show T66 Ops.std M101 l x some=_
 unfold T66
 rw [h,ob_s,qau,List.drop_zero]
 by_cases hm:x∈l
 ·rw [if_pos hm];simp [hm]
 ·rw [if_neg hm];simp [hm]
theorem qef (w:List UInt8) (h3:w.length≤3) (hd:∀ b∈w,digitP' b=true):∀ (t i n:Nat),i+t=w.length→t<n→R104 w n (.l0 (valW (w.take i)) w.length i)=some (valW w)
 | t,i,0,hi,hn=>by omega
 | 0,i,n+1,hi,hn=>by
   show T104 Ops.std w _ some _=_
   unfold T104
   simp only [qai,qaa]
   rw [if_neg (by omega),List.take_of_length_le (by omega)]
 | t+1,i,n+1,hi,hn=>by
   have ih:=qef w h3 hd t (i+1) n (by omega) (by omega)
   have hb:=qdc i (w.take i) (by rw [List.length_take];omega) fun b hb=>hd b (List.mem_of_mem_take hb)
   have hmem:w.getD i 0∈w:=by
    rw [List.getD_eq_getElem?_getD,List.getElem?_eq_getElem (show i<w.length by omega)]
    exact List.getElem_mem _
   have hv:=qed (hd _ hmem)
   have h100:0≤valW (w.take i)∧valW (w.take i)<1000:=by
    have hi3:i=0∨i=1∨i=2:=by omega
    rcases hi3 with rfl | rfl | rfl<;>simp at hb ⊢<;>omega
   rw [take_snoc w i (by omega),qec] at ih
   show T104 Ops.std w _ some _=_
   unfold T104
   have hw:IntKind.wrap IntKind.i64 ((i:Int)+1)=((i+1:Nat):Int):=qae (by omega)
   simp only [qai,qaj,qaa,qad,hw]
   rw [if_pos (by omega),if_pos (by omega),wrap8 (by omega) (by omega),wrap64 (n:=(((w.getD i 0).toNat:Int)-48)) (by omega) (by omega),wrap64 (n:=10*valW (w.take i)) (by omega) (by omega),wrap64 (by omega) (by omega)]
   exact ih
theorem number_prog (w:List UInt8) (h3:w.length≤3) (hd:∀ b∈w,digitP' b=true):M104 w=some (valW w):=by
 have:=qef w h3 hd w.length 0 1000000 (by omega) (by omega)
 rw [List.take_zero,show valW []=0 from rfl] at this
 show T104 Ops.std w (R104 w 1000000) some none=_
 unfold T104
 exact this
def preP (s p:List UInt8):Bool:=s.take p.length == p
theorem prefix_prog (s p:List UInt8):M108 s p=some (preP s p):=by
 show T108 Ops.std M126 s p some=_
 unfold T108
 have:M126 s p=some (preP s p):=by
  show T126 Ops.std s p some=_
  unfold T126 preP
  simp only [qau,qaj,qaa,qad]
  by_cases h:p.length≤s.length
  ·rw [if_pos (by omega),if_pos (by omega)]
   simp
  ·have hne:s.take p.length≠p:=by
    intro he
    have:=congrArg List.length he
    rw [List.length_take] at this
    omega
   simp [h,hne]
 rw [this]
 rfl
def signsP:List (List UInt8):=[[60,61],[62,61],[61,61],[33,61],[38,38],[124,124],[45,62],[40],[41],[91],[93],[43],[45],[42],[60],[62],[33],[64],[59],[61]]
theorem signs_prog:M107=some signsP:=rfl
theorem qe0 {α:Type} {p q:α→Bool}:∀ {l:List α},(∀ x∈l,p x=q x)→l.find? p=l.find? q
 | [],_=>rfl
 | a::l,h=>by
   rw [List.find?_cons,List.find?_cons,h a (List.mem_cons_self ..),qe0 (l:=l) fun x hx=>h x (List.mem_cons_of_mem _ hx)]
theorem signsP_find (s:List UInt8):signsP.find? (preP s)=if signS s=[] then none else some (signS s):=by
 have e:signsP=twos++ones.map fun b=>[b]:=rfl
 have e2:twos.find? (preP s)=twos.find? (fun p=>decide (1<s.length) && (s.take 2 == p)):=qe0 fun p hp=>by
  have hl:p.length=2:=by
   have:∀ q∈twos,q.length=2:=by decide
   exact this p hp
  unfold preP
  rw [hl]
  by_cases h1:1<s.length
  ·simp [h1]
  ·have:s.take 2≠p:=by
    intro he
    have:=congrArg List.length he
    rw [List.length_take] at this
    omega
   simp [h1,this]
 rw [e,List.find?_append,e2,List.find?_map]
 unfold signS
 cases h:twos.find? (fun p=>decide (1<s.length) && (s.take 2 == p)) with
 | some p=>
   have hne:p≠[]:=by
    have:∀ q∈twos,q≠[]:=by decide
    exact this p (List.mem_of_find?_eq_some h)
   simp [hne]
 | none=>
   have e3:(preP s ∘ fun b=>[b])=fun b=>s.take 1 == [b]:=rfl
   rw [e3]
   cases h2:ones.find? (fun b=>s.take 1 == [b]) with
   | some b=>
     have h3:=List.find?_some h2
     simp only [beq_iff_eq] at h3
     simp [h3]
   | none=>simp
noncomputable abbrev tokR (s:List UInt8):=R67 M102 M103 M178 M104 M105 M106 M66 M107 M108 s
theorem qeg (s:List UInt8) (l:List (List UInt8)) (hl:l.length<1000):∀ (t i n:Nat),i+t=l.length→t<n→tokR s n (.l0 l.length i l)=some (match (l.drop i).find? (preP s) with
  | some p=>(4,p,0,0)
  | none=>(0,[],0,0))
 | t,i,0,hi,hn=>by omega
 | 0,i,n+1,hi,hn=>by
   show T67 Ops.std _ _ _ _ _ _ _ _ _ s _ some _=_
   unfold T67
   simp only [qai,qaa]
   rw [if_neg (by omega),List.drop_eq_nil_of_le (by omega)]
   rfl
 | t+1,i,n+1,hi,hn=>by
   have ih:=qeg s l hl t (i+1) n (by omega) (by omega)
   have hd:l.drop i=l.getD i (Ty.dflt ty9)::l.drop (i+1):=qba _ (by omega)
   show T67 Ops.std _ _ _ _ _ _ _ _ _ s _ some _=_
   unfold T67
   have hw:IntKind.wrap IntKind.i64 ((i:Int)+1)=((i+1:Nat):Int):=qae (by omega)
   simp only [qai,qaj,qaa,qad,hw,prefix_prog,ob_s]
   rw [if_pos (by omega),if_pos (by omega),hd,List.find?_cons]
   cases hp:preP s (l.getD i (Ty.dflt ty9)) with
   | true=>simp only [cond_true]
   | false=>
     simp only [cond_false]
     exact ih
theorem token_prog (s:List UInt8) (h0:0<s.length) (hs:s.length<900000):M67 s=some (match tokS s with
  | some (k,w,n)=>(k,w,n,0)
  | none=>(0,[],0,0)):=by
 show T67 Ops.std M102 M103 M178 M104 M105 M106 M66 M107 M108 s (tokR s 1000000) some none=_
 unfold T67
 cases s with
 | nil=>simp at h0
 | cons b r=>
   have hsg:=qeg (b::r) signsP (by decide) 20 0 1000000 rfl (by omega)
   have e0:(b::r).getD (Int.toNat 0) 0=b:=rfl
   simp only [qaj,qau,qaa,e0,qda,qcg,signs_prog,runD_prog _ hs,runW_prog _ hs,ob_s]
   rw [if_pos (by omega),tokS]
   cases hdg:digitP' b with
   | true=>
     simp only [cond_true,if_true]
     by_cases h3:((b::r).takeWhile digitP').length≤3
     ·rw [if_pos (by omega),if_pos h3,number_prog _ h3 (tw_all _),ob_s]
     ·rw [if_neg (by omega),if_neg h3]
   | false=>
     simp only [cond_false,Bool.false_eq_true,if_false]
     cases hlw:lowerP b with
     | true=>
       simp only [cond_true,if_true]
       by_cases h8:((b::r).takeWhile wordP).length≤8
       ·rw [if_pos (by omega),if_pos h8]
       ·rw [if_neg (by omega),if_neg h8]
     | false=>
       simp only [cond_false,Bool.false_eq_true,if_false]
       have hc:M66 (88::70::71::85::82::mt (Ty.den (Ty.int IntKind.u8))) (b.toNat:Int)=some (letterP b):=by
        refine (qcu _ _ (by simp [mt])).trans ?_
        congr 1
        rw [Bool.eq_iff_iff]
        simp only [decide_eq_true_eq,letterP,Bool.or_eq_true,List.mem_cons,mt,List.not_mem_nil,or_false]
        omega
       rw [hc,ob_s]
       cases hlt:letterP b with
       | true=>
         simp only [cond_true,if_true]
         rw [if_pos (by omega)]
         rfl
       | false=>
         simp only [cond_false,Bool.false_eq_true,if_false]
         refine Eq.trans hsg ?_
         rw [List.drop_zero,signsP_find]
         by_cases hn:signS (b::r)=[]
         ·rw [if_pos hn,if_pos hn]
         ·rw [if_neg hn,if_neg hn]
noncomputable abbrev lexPR (s:List UInt8):=R29 M66 M67 s
theorem lexP_go (s:List UInt8) (hs:s.length≤60000):∀ (f a n:Nat) (out:List Tok),s.length-a<f→a≤s.length→s.length-a<n→out.length≤a→
  lexPR s n (.l0 a out)=some (lexGo f (s.drop a) a out)
 | 0,a,n,out,hf,ha,hn,ho=>by omega
 | f+1,a,0,out,hf,ha,hn,ho=>by omega
 | f+1,a,n+1,out,hf,ha,hn,ho=>by
   have ih:=lexP_go s hs f
   show T29 Ops.std _ _ s _ some _=_
   unfold T29
   by_cases hend:a=s.length
   ·rw [List.drop_eq_nil_of_le (by omega)]
    simp only [qai,qas,qaa,mt,List.length_cons,List.length_nil]
    rw [if_neg (by omega),if_pos (by omega),hend]
    rfl
   ·have halt:a<s.length:=by omega
    have hd:s.drop a=s.getD a 0::s.drop (a+1):=qb4 halt
    have hw1:IntKind.wrap IntKind.i64 ((a:Int)+1)=((a+1:Nat):Int):=qae (by omega)
    have hc:M66 (32::9::10::mt (Ty.den (Ty.int IntKind.u8))) ((s.getD a 0).toNat:Int)=some (blankP (s.getD a 0)):=by
     refine (qcu _ _ (by simp [mt])).trans ?_
     congr 1
     rw [Bool.eq_iff_iff]
     simp only [decide_eq_true_eq,blankP,Bool.or_eq_true,List.mem_cons,mt,List.not_mem_nil,or_false]
     omega
    have htk:=token_prog (s.drop a) (by rw [List.length_drop];omega) (by rw [List.length_drop];omega)
    simp only [qai,qaj,qan,qas,qaa,qad,hw1,hc,ob_s,List.take_length,htk]
    rw [if_pos (by omega),if_pos (by omega)]
    cases hb:blankP (s.getD a 0) with
    | true=>
      simp only [cond_true]
      refine Eq.trans (ih (a+1) n out (by omega) (by omega) (by omega) (by omega)) ?_
      rw [hd]
      simp only [lexGo,hb,if_true]
    | false=>
      simp only [cond_false]
      rw [if_pos (by omega)]
      cases ht:tokS (s.drop a) with
      | none=>
        simp only [if_true]
        rw [hd] at ht ⊢
        simp only [lexGo,hb,ht,Bool.false_eq_true,if_false]
      | some x=>
        obtain ⟨k,w,v⟩:=x
        obtain ⟨h1,h2,h3,h4,h5⟩:=qdd ht
        rw [List.length_drop] at h2
        simp only [if_neg h4,mt,List.length_cons,List.length_nil]
        rw [if_pos (by omega),show IntKind.wrap IntKind.i64 ((a:Int)+(w.length:Int))=((a+w.length:Nat):Int) by rw [wrap64 (by omega) (by omega)];omega]
        refine Eq.trans (ih (a+w.length) n _ (by omega) (by omega) (by omega) (by simp;omega)) ?_
        have ht':=ht
        rw [hd] at ht ⊢
        simp only [lexGo,hb,ht,Bool.false_eq_true,if_false]
        rw [←hd,List.drop_drop]
theorem lex_prog (s:List UInt8):M29 s=some (lexS s):=by
 show T29 Ops.std M66 M67 s (lexPR s 1000000) some none=_
 unfold T29 lexS
 simp only [qai,qaa,mt]
 by_cases h:60000<s.length
 ·rw [if_pos (by omega),if_pos h]
 ·rw [if_neg (by omega),if_neg h]
  exact lexP_go s (by omega) (s.length+1) 0 1000000 [] (by omega) (by omega) (by omega) (by simp)
def sgT (l:List Tok) (a:Nat):List UInt8:=if (tkD l a).1=4 then (tkD l a).2.1 else []
theorem sgT_is {l:List Tok} {a:Nat} {w:List UInt8} (hw:w≠[]):(sgT l a == w)=isS l a w:=by
 unfold sgT isS
 by_cases h:(tkD l a).1=4
 ·rw [if_pos h,decide_eq_true h,Bool.true_and]
 ·rw [if_neg h,decide_eq_false h,Bool.false_and]
  simpa using hw
theorem sgT_op (l:List Tok) (a:Nat):sgW (sgT l a)=sgE l a:=by
 unfold sgT sgE
 split<;>rfl
theorem qbl {l:List Tok} {a:Nat} (ha:a<l.length) (out:List Trm):M98 l a out=some (sgT l a,l,(a:Int),out):=by
 show T98 Ops.std l a out some=_
 unfold T98 sgT
 simp only [qaj,qan,qaa,qad]
 rw [if_pos (by omega)]
 split<;>rfl
theorem op_chain (w:List UInt8):M97 w=cond (([42]:List UInt8) == w) (some (6,4)) (cond (([43]:List UInt8) == w) (some (7,3)) (cond (([45]:List UInt8) == w) (some (8,3)) (cond (([60]:List UInt8) == w) (some (9,2)) (cond (([60,61]:List UInt8) == w) (some (10,2)) (cond (([62]:List UInt8) == w) (some (11,2)) (cond (([62,61]:List UInt8) == w) (some (12,2)) (cond (([61,61]:List UInt8) == w) (some (13,2)) (cond (([33,61]:List UInt8) == w) (some (14,2)) (cond (([38,38]:List UInt8) == w) (some (15,1)) (cond (([124,124]:List UInt8) == w) (some (16,0)) (some (0,-1)))))))))))):=by kernel_rfl
theorem beq_ite {α:Type} (x w:List UInt8) (a b:α):cond (x == w) a b=if w=x then a else b:=by
 by_cases h:w=x
 ·rw [if_pos h,h];simp
 ·rw [if_neg h]
  have:(x == w)=false:=by simpa using fun h2=>h h2.symm
  rw [this];rfl
theorem op_prog (w:List UInt8):M97 w=some ((sgW w).1,((sgW w).2:Int)-1):=by
 rw [op_chain]
 simp only [beq_ite]
 have key:∀ f:Int×Nat→Option (Int×Int),f (sgW w)=if w=[42] then f (6,5) else if w=[43] then f (7,4) else if w=[45] then f (8,4) else if w=[60] then f (9,3) else if w=[60,61] then f (10,3) else if w=[62] then f (11,3) else if w=[62,61] then f (12,3) else if w=[61,61] then f (13,3) else if w=[33,61] then f (14,3) else if w=[38,38] then f (15,2) else if w=[124,124] then f (16,1) else f (0,0):=fun f=>by
  unfold sgW
  simp only [apply_ite f]
 exact (key fun p=>some (p.1,(p.2:Int)-1)).symm
theorem back_prog (l:List Int):M123 l=some l:=rfl
def RsP (l:List Tok) (out:List Trm) (r:PR) (o:Option (Bool×List Tok×Int×List Trm)):Prop:=match r with
 | .ok b e=>o=some (true,l,(b:Int),out++e)
 | .bad k=>∃ out',o=some (false,l,(k:Int),out')
noncomputable abbrev bnR (d:Nat):=R63 (Rec63 d).2.1 (Rec63 d).1 M98 M97
noncomputable abbrev uaR (d:Nat):=R96 M98 (Rec63 d).2.2 M123
abbrev BnOK (l:List Tok) (d:Nat):Prop:=∀ (n a:Nat) (out:List Trm),1≤n→n≤6→16*(l.length-a)+2*(7-n)<d→a<l.length→out.length+(l.length-a)<200000→∃ r,PE l (.lv n a) r∧RsP l out r ((Rec63 d).1 ((n:Int)-1) l a out)
abbrev UaOK (l:List Tok) (d:Nat):Prop:=∀ (a:Nat) (out:List Trm),16*(l.length-a)<d→a<l.length→out.length+(l.length-a)<200000→∃ r,PE l (.un a) r∧RsP l out r ((Rec63 d).2.1 l a out)
abbrev AtOK (l:List Tok) (d:Nat):Prop:=∀ (a:Nat) (out:List Trm),16*(l.length-a)<d+3→a<l.length→out.length+(l.length-a)<200000→¬ isS l a [33]=true→¬ isS l a [45]=true→∃ r,PE l (.un a) r∧RsP l out r ((Rec63 d).2.2 l a out)
section
variable {l:List Tok}
theorem wordE_prog (hl:toksOK l) (hll:l.length<100000) {a:Nat} (ha:a<l.length) (hk:(tkD l a).1=2) (out:List Trm) (ho:out.length+(l.length-a)<200000):∃ r,PE l (.un a) r∧RsP l out r (M135 l a out):=by
 have h1:=qaq hl ha (Ty.dflt ty85) (by rw [show (l.getD a (Ty.dflt ty85)).1=2 from hk];decide)
 have hM:M135 l a out=T135 Ops.std M98 l a out some:=rfl
 rw [hM]
 unfold T135
 have hw1:IntKind.wrap IntKind.i64 ((a:Int)+1)=((a+1:Nat):Int):=qae (by omega)
 simp only [qaj,qan,qas,qaa,qa6,qad,mt,List.length_cons,List.length_nil,hw1]
 rw [if_pos (by omega),qbl h1,ob_s]
 dsimp only
 rw [sgT_is (by decide)]
 have hpe:=pe_word hk
 cases hs:isS l (a+1) [64] with
 | false=>
   rw [if_neg (by rw [hs];decide)] at hpe
   simp only [Bool.not_false,cond_true]
   rw [if_pos (by omega)]
   exact ⟨_,hpe,rfl⟩
 | true=>
   rw [if_pos hs] at hpe
   have h2:=qaq hl h1 (Ty.dflt ty85) (by rw [show (l.getD (a+1) (Ty.dflt ty85)).1=4 from qb7 hs];decide)
   have hw2:IntKind.wrap IntKind.i64 (((a+1:Nat):Int)+1)=((a+2:Nat):Int):=qae (by omega)
   have hw3:IntKind.wrap IntKind.i64 (((a+2:Nat):Int)+1)=((a+3:Nat):Int):=qae (by omega)
   simp only [Bool.not_true,cond_false,hw2,hw3,qad]
   have hin:(0:Int)≤((a+2:Nat):Int)∧((a+2:Nat):Int)<(l.length:Int):=by omega
   simp only [if_pos hin]
   by_cases h3:(l.getD (a+2) (Ty.dflt ty85)).1=2
   ·rw [if_pos h3] at hpe
    rw [if_neg (fun h=>h h3),if_pos (by omega)]
    exact ⟨_,hpe,rfl⟩
   ·rw [if_neg h3] at hpe
    rw [if_pos h3]
    exact ⟨_,hpe,_,rfl⟩
theorem atom_step (hl:toksOK l) (hll:l.length<100000) (d:Nat) (hb:BnOK l d):AtOK l (d+1):=fun a out hd ha ho n1 n2=>by
 show ∃ r,PE l (.un a) r∧RsP l out r (T122 Ops.std M135 M98 (Rec63 d).1 l a out some)
 unfold T122
 have hw1:IntKind.wrap IntKind.i64 ((a:Int)+1)=((a+1:Nat):Int):=qae (by omega)
 simp only [qaj,qan,qas,qaa,qa6,qad,mt,List.length_cons,List.length_nil,hw1]
 rw [if_pos (by omega)]
 by_cases k1:(l.getD a (Ty.dflt ty85)).1=1
 ·rw [if_pos k1,if_pos (by omega)]
  exact ⟨_,pe_num k1,rfl⟩
 ·rw [if_neg k1]
  by_cases k2:(l.getD a (Ty.dflt ty85)).1=2
  ·rw [if_pos k2]
   obtain ⟨r,h1,h2⟩:=wordE_prog hl hll ha k2 out ho
   refine ⟨r,h1,?_⟩
   cases r with
   | ok b e=>
     have h2:M135 l a out=some (true,l,(b:Int),out++e):=h2
     rw [h2,ob_s]
     exact rfl
   | bad k=>
     obtain ⟨out',h2⟩:=h2
     rw [h2,ob_s]
     exact ⟨_,rfl⟩
  ·rw [if_neg k2,qbl ha,ob_s]
   dsimp only
   rw [sgT_is (by decide)]
   cases hs:isS l a [40] with
   | false=>
     simp only [Bool.not_false,cond_true]
     exact ⟨_,pe_none n1 n2 k1 k2 (by rw [hs];decide),_,rfl⟩
   | true=>
     simp only [Bool.not_true,cond_false,hw1]
     have h1:=qaq hl ha (Ty.dflt ty85) (by rw [qb7 hs];decide)
     obtain ⟨r,g1,g2⟩:=hb 1 (a+1) out (by omega) (by omega) (by omega) h1 (by omega)
     have e0:((1:Nat):Int)-1=0:=rfl
     rw [e0] at g2
     cases r with
     | bad k=>
       obtain ⟨out',g2⟩:=g2
       rw [g2,ob_s]
       exact ⟨_,pe_brab hs g1,_,rfl⟩
     | ok b e=>
       have g2:(Rec63 d).1 0 l ((a+1:Nat):Int) out=some (true,l,(b:Int),out++e):=g2
       have hbd:=g1.bd hl (Nat.le_refl 1) h1
       rw [g2,ob_s]
       dsimp only
       simp only [Bool.not_true,cond_false]
       rw [qbl hbd.2.1,ob_s]
       dsimp only
       rw [sgT_is (by decide)]
       refine ⟨_,pe_bra hs g1,?_⟩
       cases hs2:isS l b [41] with
       | false=>exact ⟨_,rfl⟩
       | true=>
         have:IntKind.wrap IntKind.i64 ((b:Int)+1)=((b+1:Nat):Int):=qae (by have:=hbd.2.1;omega)
         rw [this]
         exact rfl
theorem qe1 (hll:l.length<100000) (d:Nat) (p0:List Tok) (p1:Int) (p2:List Trm) (b:Nat):∀ (ops:List Int) (m:Nat) (rest:List Int) (out:List Trm),ops.length<m→out.length+ops.length<1000000→
  uaR d p0 p1 p2 m (.l1012 ((ops.length:Nat)-1) l b out (ops.reverse++rest))=some (true,l,(b:Int),out++ops.map fun n=>(n,0,[],[]))
 | ops,0,rest,out,hm,ho=>by omega
 | [],m+1,rest,out,hm,ho=>by
  show T96 Ops.std _ _ _ p0 p1 p2 _ some _=_
  unfold T96
  simp only [qai,qaa]
  rw [if_pos (by simp)]
  simp
 | x::ops,m+1,rest,out,hm,ho=>by
   have ih:=qe1 hll d p0 p1 p2 b ops m (x::rest) (out++[(x,0,[],[])]) (by simpa using hm) (by simp at ho ⊢;omega)
   show T96 Ops.std _ _ _ p0 p1 p2 _ some _=_
   unfold T96
   simp only [qai,qas,qaa,mt]
   have hi:(((x::ops).length:Nat):Int)-1=(ops.length:Nat):=by simp
   rw [hi,if_neg (by omega),if_pos (by simp;omega),qad]
   have hg:((x::ops).reverse++rest).getD ops.length 0=x:=by
    rw [List.reverse_cons,List.append_assoc]
    have:=qa1 ops.reverse x rest 0
    rw [List.length_reverse] at this
    exact this
   rw [hg,if_pos (by simp only [List.length_cons,List.length_nil];simp at ho;omega)]
   rw [List.reverse_cons,List.append_assoc]
   rw [List.map_cons]
   have e:out++((x,0,[],[])::ops.map fun n=>((n,0,[],[]):Trm))=out++[(x,0,[],[])]++ops.map fun n=>(n,0,[],[]):=by simp
   rw [e]
   exact ih
theorem qdf (hl:toksOK l) (hll:l.length<100000) (d:Nat) (hat:AtOK l d) (p0:List Tok) (p1:Int) (p2:List Trm):∀ (t a m:Nat) (ops:List Int) (out:List Trm),l.length-a≤t→200000+t<m→16*(l.length-a)<d+3→a<l.length→ops.length+out.length+(l.length-a)<200000→
  ∃ r,PE l (.un a) r∧(match r with
    | .ok b e=>uaR d p0 p1 p2 m (.l0 l a ops out)=some (true,l,(b:Int),out++e++ops.reverse.map fun n=>(n,0,[],[]))
    | .bad k=>∃ out',uaR d p0 p1 p2 m (.l0 l a ops out)=some (false,l,(k:Int),out'))
 | t,a,0,ops,out,ht,hm,hd,ha,ho=>by omega
 | 0,a,m+1,ops,out,ht,hm,hd,ha,ho=>by omega
 | t+1,a,m+1,ops,out,ht,hm,hd,ha,ho=>by
   have hU:uaR d p0 p1 p2 (m+1) (.l0 l a ops out)=T96 Ops.std M98 (Rec63 d).2.2 M123 p0 p1 p2 (uaR d p0 p1 p2 m) some (some (.l0 l a ops out)):=rfl
   rw [hU]
   unfold T96
   have hw1:IntKind.wrap IntKind.i64 ((a:Int)+1)=((a+1:Nat):Int):=qae (by omega)
   simp only [qaj,qan,qas,qai,qaa,qa6,qad,mt,List.length_cons,List.length_nil,qbl ha,ob_s,hw1,sgT_is (l:=l) (a:=a) (w:=[33]) (by decide),sgT_is (l:=l) (a:=a) (w:=[45]) (by decide)]
   cases hs1:isS l a [33] with
   | true=>
     simp only [cond_true]
     rw [if_pos (by omega)]
     have h1:=qaq hl ha (Ty.dflt ty85) (by rw [qb7 hs1];decide)
     obtain ⟨r,g1,g2⟩:=qdf hl hll d hat p0 p1 p2 t (a+1) m (ops++[4]) out (by omega) (by omega) (by omega) h1 (by simp;omega)
     cases r with
     | ok b e=>
       refine ⟨_,pe_not hs1 g1,g2.trans ?_⟩
       simp
     | bad k=>exact ⟨_,pe_notb hs1 g1,g2⟩
   | false=>
     simp only [cond_false]
     cases hs2:isS l a [45] with
     | true=>
       simp only [cond_true]
       rw [if_pos (by omega)]
       have h1:=qaq hl ha (Ty.dflt ty85) (by rw [qb7 hs2];decide)
       obtain ⟨r,g1,g2⟩:=qdf hl hll d hat p0 p1 p2 t (a+1) m (ops++[5]) out (by omega) (by omega) (by omega) h1 (by simp;omega)
       cases r with
       | ok b e=>
         refine ⟨_,pe_neg hs2 g1,g2.trans ?_⟩
         simp
       | bad k=>exact ⟨_,pe_negb hs2 g1,g2⟩
     | false=>
       simp only [cond_false]
       obtain ⟨r,g1,g2⟩:=hat a out hd ha (by omega) (by rw [hs1];decide) (by rw [hs2];decide)
       refine ⟨r,g1,?_⟩
       cases r with
       | bad k=>
         obtain ⟨out',g2⟩:=g2
         rw [g2,ob_s]
         exact ⟨_,rfl⟩
       | ok b e=>
         have g2:(Rec63 d).2.2 l (a:Int) out=some (true,l,(b:Int),out++e):=g2
         have hbd:=g1.bd hl (by show 1≤6;omega) ha
         have hb1:a<b:=hbd.1
         have hb3:e.length≤b-a:=hbd.2.2.1
         have hb2:b<l.length:=hbd.2.1
         rw [g2,ob_s]
         dsimp only
         simp only [Bool.not_true,cond_false,back_prog,ob_s]
         have:=qe1 hll d p0 p1 p2 b ops.reverse m [] (out++e) (by simp;omega) (by simp;omega)
         simp only [List.reverse_reverse,List.append_nil,List.length_reverse] at this
         exact this
theorem qby (hl:toksOK l) (hll:l.length<100000) (d n:Nat) (h1:1≤n) (h6:n≤5) (p1:List Tok) (p2:Int) (p3:List Trm) (hb:∀ (a:Nat) (out:List Trm),16*(l.length-a)+2*(6-n)<d→a<l.length→out.length+(l.length-a)<200000→∃ r,PE l (.lv (n+1) a) r∧RsP l out r ((Rec63 d).1 (n:Int) l a out)):∀ (t b m:Nat) (out e:List Trm),l.length-b≤t→t<m→16*(l.length-b)+2*(6-n)<d→b<l.length→out.length+e.length+(l.length-b)<200000→
  ∃ r,PE l (.lp n b e) r∧RsP l out r (bnR d ((n:Int)-1) p1 p2 p3 m (.l0 l b (out++e)))
 | t,b,0,out,e,ht,hm,hd,hbl,ho=>by omega
 | 0,b,m+1,out,e,ht,hm,hd,hbl,ho=>by omega
 | t+1,b,m+1,out,e,ht,hm,hd,hbl,ho=>by
   have hU:bnR d ((n:Int)-1) p1 p2 p3 (m+1) (.l0 l b (out++e))=T63 Ops.std (Rec63 d).2.1 (Rec63 d).1 M98 M97 ((n:Int)-1) p1 p2 p3 (bnR d ((n:Int)-1) p1 p2 p3 m) some (some (.l0 l b (out++e))):=rfl
   rw [hU]
   unfold T63
   have hw1:IntKind.wrap IntKind.i64 ((b:Int)+1)=((b+1:Nat):Int):=qae (by omega)
   have hwn:IntKind.wrap IntKind.i64 ((n:Int)-1+1)=(n:Int):=by rw [wrap64 (by omega) (by omega)];omega
   simp only [qaj,qan,qas,qai,qaa,qa6,qad,mt,List.length_cons,List.length_nil,qbl hbl,ob_s,hw1,hwn,op_prog,sgT_op]
   by_cases hs:(sgE l b).2=n
   ·have ho3:=sgE_op hs h1
    rw [if_neg (by omega)]
    have hb1:=qaq hl hbl (Ty.dflt ty85) (by rw [show (l.getD b (Ty.dflt ty85)).1=4 from ho3.2.2];decide)
    obtain ⟨r,g1,g2⟩:=hb (b+1) (out++e) (by omega) hb1 (by simp;omega)
    cases r with
    | bad k=>
      obtain ⟨out',g2⟩:=g2
      rw [g2,ob_s]
      exact ⟨_,pe_lpbad hs g1,_,rfl⟩
    | ok c e2=>
      have g2:(Rec63 d).1 (n:Int) l ((b+1:Nat):Int) (out++e)=some (true,l,(c:Int),out++e++e2):=g2
      have hbd:=g1.bd hl (by show 1≤n+1;omega) hb1
      have hc1:b+1<c:=hbd.1
      have hc2:c<l.length:=hbd.2.1
      have hc3:e2.length≤c-(b+1):=hbd.2.2.1
      rw [g2,ob_s]
      dsimp only
      simp only [Bool.not_true,cond_false]
      rw [if_pos (by simp only [List.length_append];omega)]
      by_cases h3:n=3
      ·subst h3
       rw [if_pos (by decide)]
       refine ⟨_,pe_three hs g1,?_⟩
       show some _=some _
       simp
      ·rw [if_neg (by omega)]
       obtain ⟨r,j1,j2⟩:=qby hl hll d n h1 h6 p1 p2 p3 hb t c m out (e++e2++[((sgE l b).1,0,[],[])]) (by omega) (by omega) (by omega) hc2 (by simp;omega)
       refine ⟨r,pe_more h3 hs g1 j1,?_⟩
       have ea:out++(e++e2++[((sgE l b).1,0,[],[])])=out++e++e2++[((sgE l b).1,0,[],[])]:=by simp
       rw [ea] at j2
       exact j2
   ·rw [if_pos (by omega)]
    exact ⟨_,pe_stop hs,rfl⟩
theorem parser_ok (hl:toksOK l) (hll:l.length<100000):∀ d,BnOK l d∧UaOK l d∧AtOK l d
 | 0=>⟨fun n a out _ _ h _ _=>(by omega),fun a out h _ _=>(by omega),fun a out h ha _ _ _=>(by omega)⟩
 | d+1=>by
   obtain ⟨hb,hu,hat⟩:=parser_ok hl hll d
   refine ⟨fun n a out h1 h6 hd ha ho=>?_,fun a out hd ha ho=>?_,atom_step hl hll d hb⟩
   ·show ∃ r,PE l (.lv n a) r∧RsP l out r (T63 Ops.std (Rec63 d).2.1 (Rec63 d).1 M98 M97 ((n:Int)-1) l a out (bnR d ((n:Int)-1) l a out 1000000) some none)
    unfold T63
    have hwn:IntKind.wrap IntKind.i64 ((n:Int)-1+1)=(n:Int):=by rw [wrap64 (by omega) (by omega)];omega
    simp only [qan,qaa,hwn]
    by_cases hn:n=6
    ·subst hn
     rw [if_pos (by decide)]
     obtain ⟨r,g1,g2⟩:=hu a out (by omega) ha ho
     refine ⟨r,pe_six g1,?_⟩
     cases r with
     | bad k=>
       obtain ⟨out',g2⟩:=g2
       rw [g2,ob_s]
       exact ⟨_,rfl⟩
     | ok b e=>
       have g2:(Rec63 d).2.1 l (a:Int) out=some (true,l,(b:Int),out++e):=g2
       rw [g2,ob_s]
       exact rfl
    ·rw [if_neg (by omega)]
     have hsub:∀ (a:Nat) (out:List Trm),16*(l.length-a)+2*(6-n)<d→a<l.length→out.length+(l.length-a)<200000→∃ r,PE l (.lv (n+1) a) r∧RsP l out r ((Rec63 d).1 (n:Int) l a out):=fun a out h2 h3 h4=>by
      have:=hb (n+1) a out (by omega) (by omega) (by omega) h3 h4
      have e:((n+1:Nat):Int)-1=(n:Int):=by omega
      rw [e] at this
      exact this
     obtain ⟨r,g1,g2⟩:=hsub a out (by omega) ha ho
     cases r with
     | bad k=>
       obtain ⟨out',g2⟩:=g2
       rw [g2,ob_s]
       exact ⟨_,pe_bad hn g1,_,rfl⟩
     | ok b e=>
       have g2:(Rec63 d).1 (n:Int) l (a:Int) out=some (true,l,(b:Int),out++e):=g2
       have hbd:=g1.bd hl (by show 1≤n+1;omega) ha
       have hc1:a<b:=hbd.1
       have hc2:b<l.length:=hbd.2.1
       have hc3:e.length≤b-a:=hbd.2.2.1
       rw [g2,ob_s]
       obtain ⟨r,j1,j2⟩:=qby hl hll d n h1 (by omega) l a out hsub (l.length-b) b 1000000 out e (by omega) (by omega) (by omega) hc2 (by omega)
       exact ⟨r,pe_lv hn g1 j1,j2⟩
   ·show ∃ r,PE l (.un a) r∧RsP l out r (T96 Ops.std M98 (Rec63 d).2.2 M123 l a out (uaR d l a out 1000000) some none)
    unfold T96
    obtain ⟨r,g1,g2⟩:=qdf hl hll d hat l a out (l.length-a) a 1000000 [] out (by omega) (by omega) (by omega) ha (by simp;omega)
    refine ⟨r,g1,?_⟩
    cases r with
    | bad k=>exact g2
    | ok b e=>
      refine g2.trans ?_
      simp
def takeR (a:Nat):PR→Int×Int×List Trm
 | .ok b e=>if 30<e.length then ((a:Int),13,[]) else ((b:Int),0,e)
 | .bad k=>((k:Int),2,[])
theorem ended_prog (hl:toksOK l) (hll:l.length<100000) {a:Nat} (ha:a<l.length):M62 l a=some true:=by
 show T62 Ops.std l a some=_
 unfold T62
 have hw:IntKind.wrap IntKind.i64 (((l.length:Nat):Int)-1)=((l.length-1:Nat):Int):=by rw [wrap64 (by omega) (by omega)];omega
 simp only [qaj,qan,qau,qai,qaa,hw,qad]
 rw [if_pos (by omega),if_pos (by omega),if_pos (by omega)]
 rcases (toks_at hl (i:=l.length-1) (by omega) (Ty.dflt ty85)).1 with h | h
 ·omega
 ·rw [h];rfl
theorem take_prog (hl:toksOK l) (hll:l.length≤60001) {a:Nat} (ha:a<l.length):∃ r,PE l (.lv 1 a) r∧M25 l a=some (takeR a r):=by
 obtain ⟨r,g1,g2⟩:=(parser_ok hl (by omega) 1000000).1 1 a [] (by omega) (by omega) (by omega) ha (by simp;omega)
 refine ⟨r,g1,?_⟩
 show T25 Ops.std M62 M63 l a some=_
 unfold T25
 simp only [qai,qaa,ended_prog hl (by omega:l.length<100000) ha,ob_s,Bool.not_true,cond_false,mt]
 cases r with
 | bad k=>
   obtain ⟨out',g2⟩:=g2
   have g2:M63 0 l (a:Int) []=some (false,l,(k:Int),out'):=g2
   rw [g2,ob_s]
   exact rfl
 | ok b e=>
   have g2:M63 0 l (a:Int) []=some (true,l,(b:Int),[]++e):=g2
   rw [g2,ob_s]
   simp only [List.nil_append,Bool.not_true,cond_false,takeR]
   by_cases h:30<e.length
   ·rw [if_pos (by omega),if_pos h]
   ·rw [if_neg (by omega),if_neg h]
def parseR (l:List Tok) (y:Int×Int×List Trm):Int×Int×List Trm:=
 if y.2.1=0 then (if (tkD l y.1.toNat).1=5 then (0,0,y.2.2) else (2,(tkD l y.1.toNat).2.2.2,[])) else (y.2.1,(tkD l y.1.toNat).2.2.2,[])
theorem takeR_in (hl:toksOK l) {a:Nat} (ha:a<l.length) {r:PR} (h:PE l (.lv 1 a) r):∃ (k:Nat) (e:Int) (x:List Trm),takeR a r=((k:Int),e,x)∧k<l.length:=by
 have hbd:=h.bd hl (Nat.le_refl 1) ha
 cases r with
 | ok b e=>
   by_cases h30:30<e.length
   ·exact ⟨a,13,[],if_pos h30,ha⟩
   ·exact ⟨b,0,e,if_neg h30,hbd.2.1⟩
 | bad k=>exact ⟨k,2,[],rfl,hbd.2⟩
end
def ParseIs (s:List UInt8) (y:Int×Int×List Trm):Prop:=
 (∃ (e x:Int) (l:List Tok),lexS s=(e,x,l)∧e≠0∧y=(e,x,[]))∨∃ (x:Int) (l:List Tok) (r:PR),lexS s=(0,x,l)∧PE l (.lv 1 0) r∧y=parseR l (takeR 0 r)
theorem ParseIs.det {s:List UInt8} {y y':Int×Int×List Trm} (h:ParseIs s y) (h':ParseIs s y'):y=y':=by
 rcases h with ⟨e,x,l,h1,h2,rfl⟩ | ⟨x,l,r,h1,h2,rfl⟩<;>rcases h' with ⟨e',x',l',g1,g2,rfl⟩ | ⟨x',l',r',g1,g2,rfl⟩
 ·rw [h1] at g1;cases g1;rfl
 ·rw [h1] at g1;cases g1;exact absurd rfl h2
 ·rw [h1] at g1;cases g1;exact absurd rfl g2
 ·rw [h1] at g1;cases g1;rw [h2.det g2]
theorem qe2 (s:List UInt8):∃ y,ParseIs s y∧M17 s=some y:=by
 have hM:M17 s=T17 Ops.std M29 M25 s some:=rfl
 rw [hM]
 unfold T17
 rw [lex_prog,ob_s]
 simp only [qan,qaj,qa6,qaa,mt]
 generalize hr:lexS s=y
 obtain ⟨e,x,l⟩:=y
 dsimp only
 by_cases he:e=0
 ·subst he
  obtain ⟨hl,hlen,hs⟩:=lexS_ok hr
  have hp:=qdu hl
  obtain ⟨r,g1,g2⟩:=take_prog hl (by omega) hp
  refine ⟨_,.inr ⟨x,l,r,hr,g1,rfl⟩,?_⟩
  obtain ⟨k,e,z,g3,g4⟩:=takeR_in hl hp g1
  rw [g3] at g2
  rw [g3]
  have g2:M25 l 0=some ((k:Int),e,z):=g2
  rw [if_neg (by simp),g2,ob_s]
  unfold parseR
  dsimp only
  simp only [qad]
  have hin:(0:Int)≤(k:Int)∧(k:Int)<(l.length:Int):=by omega
  simp only [if_pos hin]
  by_cases h0:e=0
  ·subst h0
   simp only [if_true,not_true_eq_false,if_false]
   by_cases h5:(l.getD k (Ty.dflt ty85)).1=5
   ·rw [if_neg (fun h=>h h5),if_pos h5]
   ·rw [if_pos h5,if_neg h5,if_pos (by decide)]
  ·rw [if_neg h0,if_pos h0,if_neg h0]
 ·rw [if_pos he]
  exact ⟨_,.inl ⟨e,x,l,hr,he,rfl⟩,rfl⟩
def nmJ:Nat→List UInt8
 | 6=>[42] | 7=>[43] | 8=>[45] | 9=>[60] | 10=>[60,61] | 11=>[62] | 12=>[62,61] | 13=>[61,61] | 14=>[33,61] | 15=>[38,38] | 16=>[124,124] | _=>[]
def stJ:Nat→Nat
 | 6=>5 | 7=>4 | 8=>4 | 9=>3 | 10=>3 | 11=>3 | 12=>3 | 13=>3 | 14=>3 | 15=>2 | 16=>1 | _=>0
def chJ (w:List UInt8) (lv:Int):Nat→Nat→Option Int
 | 0,_=>some 0
 | t+1,j=>if nmJ j=w∧(stJ j:Int)=lv then some (j:Int) else chJ w lv t (j+1)
theorem strength_ref (j:Nat) (h6:6≤j) (h16:j≤16):M54 (j:Int)=some (stJ j:Int):=by
 have hj:j=6∨j=7∨j=8∨j=9∨j=10∨j=11∨j=12∨j=13∨j=14∨j=15∨j=16:=by omega
 rcases hj with rfl | rfl | rfl | rfl | rfl | rfl | rfl | rfl | rfl | rfl | rfl<;>rfl
theorem names_ref (j:Nat) (h6:6≤j) (h16:j≤16):List.getD (mt UInt8::mt UInt8::mt UInt8::mt UInt8::mt UInt8::mt UInt8::([42]:List UInt8)::([43]:List UInt8)::([45]:List UInt8)::([60]:List UInt8)::([60,61]:List UInt8)::([62]:List UInt8)::([62,61]:List UInt8)::([61,61]:List UInt8)::([33,61]:List UInt8)::([38,38]:List UInt8)::([124,124]:List UInt8)::mt (List UInt8)) j (mt UInt8)=nmJ j:=by
 have hj:j=6∨j=7∨j=8∨j=9∨j=10∨j=11∨j=12∨j=13∨j=14∨j=15∨j=16:=by omega
 rcases hj with rfl | rfl | rfl | rfl | rfl | rfl | rfl | rfl | rfl | rfl | rfl<;>rfl
theorem qdm (k:Int) (w:List UInt8) (n x lv:Int):∀ (t j m:Nat),j+t=17→t<m→6≤j→
  R100 M54 k w n x lv m (.l0 j)=chJ w lv t j
 | t,j,0,hj,hm,h6=>by omega
 | 0,j,m+1,hj,hm,h6=>by
   show T100 Ops.std _ k w n x lv _ some _=_
   unfold T100
   simp only [qau,qaa]
   rw [if_neg (by omega)]
   rfl
 | t+1,j,m+1,hj,hm,h6=>by
   have ih:=qdm k w n x lv t (j+1) m (by omega) (by omega) (by omega)
   show T100 Ops.std _ k w n x lv _ some _=_
   unfold T100
   have hw:IntKind.wrap IntKind.i64 ((j:Int)+1)=((j+1:Nat):Int):=qae (by omega)
   simp only [qau,qaj,qan,qaa,hw,qad,names_ref j h6 (by omega),strength_ref j h6 (by omega),ob_s,chJ]
   rw [if_pos (by omega),if_pos (by omega)]
   by_cases hn:nmJ j=w
   ·have:(nmJ j == w)=true:=by rw [hn];simp
    rw [this]
    simp only [cond_true]
    by_cases hl:(stJ j:Int)=lv
    ·rw [if_pos hl,if_pos ⟨hn,hl⟩]
    ·rw [if_neg hl,if_neg (show ¬ (nmJ j=w∧(stJ j:Int)=lv) from fun h=>hl h.2)]
     exact ih
   ·have:(nmJ j == w)=false:=by simpa using hn
    rw [this,if_neg (show ¬ (nmJ j=w∧(stJ j:Int)=lv) from fun h=>hn h.1)]
    simp only [cond_false]
    exact ih
theorem binary_ref (k:Int) (w:List UInt8) (n x:Int) (lv:Nat) (hlv:1≤lv):M100 k w n x (lv:Int)=some (if k=4 then (if (sgW w).2=lv then (sgW w).1 else 0) else 0):=by
 show T100 Ops.std M54 k w n x lv (R100 M54 k w n x lv 1000000) some none=_
 unfold T100
 simp only [qan,qa6,qaa]
 by_cases hk:k=4
 ·rw [if_neg (fun h=>h hk),if_pos hk]
  refine (qdm k w n x lv 11 6 1000000 (by omega) (by omega) (by omega)).trans ?_
  simp only [chJ,nmJ,stJ,Nat.reduceAdd]
  unfold sgW
  by_cases h1:w=[42]
  ·subst h1;by_cases h:5=lv
   ·subst h;rfl
   ·rw [if_neg (by simp;omega)];simp [h]
  rw [if_neg (fun h=>h1 h.1.symm),if_neg h1]
  by_cases h1:w=[43]
  ·subst h1;by_cases h:4=lv
   ·subst h;rfl
   ·rw [if_neg (by simp;omega)];simp [h]
  rw [if_neg (fun h=>h1 h.1.symm),if_neg h1]
  by_cases h1:w=[45]
  ·subst h1;by_cases h:4=lv
   ·subst h;rfl
   ·rw [if_neg (by simp;omega)];simp [h]
  rw [if_neg (fun h=>h1 h.1.symm),if_neg h1]
  by_cases h1:w=[60]
  ·subst h1;by_cases h:3=lv
   ·subst h;rfl
   ·rw [if_neg (by simp;omega)];simp [h]
  rw [if_neg (fun h=>h1 h.1.symm),if_neg h1]
  by_cases h1:w=[60,61]
  ·subst h1;by_cases h:3=lv
   ·subst h;rfl
   ·rw [if_neg (by simp;omega)];simp [h]
  rw [if_neg (fun h=>h1 h.1.symm),if_neg h1]
  by_cases h1:w=[62]
  ·subst h1;by_cases h:3=lv
   ·subst h;rfl
   ·rw [if_neg (by simp;omega)];simp [h]
  rw [if_neg (fun h=>h1 h.1.symm),if_neg h1]
  by_cases h1:w=[62,61]
  ·subst h1;by_cases h:3=lv
   ·subst h;rfl
   ·rw [if_neg (by simp;omega)];simp [h]
  rw [if_neg (fun h=>h1 h.1.symm),if_neg h1]
  by_cases h1:w=[61,61]
  ·subst h1;by_cases h:3=lv
   ·subst h;rfl
   ·rw [if_neg (by simp;omega)];simp [h]
  rw [if_neg (fun h=>h1 h.1.symm),if_neg h1]
  by_cases h1:w=[33,61]
  ·subst h1;by_cases h:3=lv
   ·subst h;rfl
   ·rw [if_neg (by simp;omega)];simp [h]
  rw [if_neg (fun h=>h1 h.1.symm),if_neg h1]
  by_cases h1:w=[38,38]
  ·subst h1;by_cases h:2=lv
   ·subst h;rfl
   ·rw [if_neg (by simp;omega)];simp [h]
  rw [if_neg (fun h=>h1 h.1.symm),if_neg h1]
  by_cases h1:w=[124,124]
  ·subst h1;by_cases h:1=lv
   ·subst h;rfl
   ·rw [if_neg (by simp;omega)];simp [h]
  rw [if_neg (fun h=>h1 h.1.symm),if_neg h1]
  rw [if_neg (by show ¬ 0=lv;omega)]
 ·rw [if_pos hk,if_neg hk]
theorem qeh (w:List UInt8) {l:List Tok} {a:Nat} (ha:a<l.length) (bad:Int) (out:List Trm):M124 w l a bad out=some (isS l a w,l,(a:Int),bad,out):=by
 show T124 Ops.std w l a bad out some=_
 unfold T124 isS
 simp only [qaj,qan,qaa,qad]
 rw [if_pos (by omega)]
 by_cases h:(l.getD a (Ty.dflt ty85)).1=4
 ·rw [if_pos h,if_pos (by omega),decide_eq_true h,Bool.true_and]
 ·rw [if_neg h,decide_eq_false h,Bool.false_and]
theorem qei (l:List Tok) (a:Nat) (out:List Trm):M125 l a (-1) out=some (l,(a:Int),(a:Int),out):=by
 show T125 Ops.std l a (-1) out some=_
 unfold T125
 simp only [qai,qaa]
 rw [if_pos (by omega)]
def RsR (l:List Tok) (a:Nat) (out:List Trm) (r:PR) (o:Option (List Tok×Int×Int×List Trm)):Prop:=match r with
 | .ok b e=>o=some (l,(b:Int),-1,out++e)
 | .bad k=>∃ (c:Nat) (out':List Trm),o=some (l,(c:Int),(k:Int),out')∧out'.length≤out.length+(c-a)∧a≤c∧c<l.length
noncomputable abbrev leR (d:Nat):=R64 (Rec64 d).2 (Rec64 d).1 M100
noncomputable abbrev uuR (d:Nat):=R99 M124 (Rec64 d).2 M125 (Rec64 d).1
abbrev LeOK (l:List Tok) (d:Nat):Prop:=∀ (n a:Nat) (out:List Trm),1≤n→n≤6→8*(l.length-a)+(7-n)<d→a<l.length→out.length+(l.length-a)<200000→∃ r,PE l (.lv n a) r∧RsR l a out r ((Rec64 d).1 (n:Int) l a (-1) out)
abbrev UuOK (l:List Tok) (d:Nat):Prop:=∀ (a:Nat) (out:List Trm),8*(l.length-a)<d→a<l.length→out.length+(l.length-a)<200000→∃ r,PE l (.un a) r∧RsR l a out r ((Rec64 d).2 l a (-1) out)
section
variable {l:List Tok}
theorem qej (hl:toksOK l) (hll:l.length<100000) (d n:Nat) (h1:1≤n) (h5:n≤5) (p1:List Tok) (p2 p3:Int) (p4:List Trm) (a0:Nat) (out0:List Trm) (hb:∀ (a:Nat) (out:List Trm),8*(l.length-a)+(6-n)<d→a<l.length→out.length+(l.length-a)<200000→∃ r,PE l (.lv (n+1) a) r∧RsR l a out r ((Rec64 d).1 ((n+1:Nat):Int) l a (-1) out)):∀ (t b m:Nat) (e:List Trm),l.length-b≤t→t+2<m→8*(l.length-b)+(6-n)<d→a0≤b→b<l.length→out0.length+(l.length-a0)<200000→e.length≤b-a0→
  ∃ r,PE l (.lp n b e) r∧RsR l a0 out0 r (leR d n p1 p2 p3 p4 m (.l0 l b (-1) (out0++e)))
 | t,b,0,e,ht,hm,hd,hab,hbl,ho,he=>by omega
 | 0,b,m+1,e,ht,hm,hd,hab,hbl,ho,he=>by omega
 | t+1,b,m+1,e,ht,hm,hd,hab,hbl,ho,he=>by
   have hU:leR d n p1 p2 p3 p4 (m+1) (.l0 l b (-1) (out0++e))=T64 Ops.std (Rec64 d).2 (Rec64 d).1 M100 n p1 p2 p3 p4 (leR d n p1 p2 p3 p4 m) some (some (.l0 l b (-1) (out0++e))):=rfl
   rw [hU]
   unfold T64
   have hw1:IntKind.wrap IntKind.i64 ((b:Int)+1)=((b+1:Nat):Int):=qae (by omega)
   have hwn:IntKind.wrap IntKind.i64 ((n:Int)+1)=((n+1:Nat):Int):=qae (by omega)
   simp only [qai,qaj,qan,qas,qaa,qad,mt,List.length_cons,List.length_nil,hw1,hwn]
   rw [if_pos (by omega),if_pos (by omega),binary_ref _ _ _ _ n h1,ob_s]
   have hsg:(if (l.getD b (Ty.dflt ty85)).1=4 then (if (sgW (l.getD b (Ty.dflt ty85)).2.1).2=n then (sgW (l.getD b (Ty.dflt ty85)).2.1).1 else 0) else 0)=if (sgE l b).2=n then (sgE l b).1 else 0:=by
    unfold sgE tkD
    by_cases h:(l.getD b (Ty.dflt ty85)).1=4
    ·rw [if_pos h,if_pos h]
    ·rw [if_neg h,if_neg h,if_neg (by show ¬ 0=n;omega)]
   rw [hsg]
   by_cases hs:(sgE l b).2=n
   ·have ho3:=sgE_op hs h1
    rw [if_pos hs,if_neg (by omega)]
    have hb1:=qaq hl hbl (Ty.dflt ty85) (by rw [show (l.getD b (Ty.dflt ty85)).1=4 from ho3.2.2];decide)
    obtain ⟨r,g1,g2⟩:=hb (b+1) (out0++e) (by omega) hb1 (by simp;omega)
    cases r with
    | bad k=>
      obtain ⟨c,out',g2,g3,g4,g5⟩:=g2
      rw [g2,ob_s]
      dsimp only
      simp only [List.length_append] at g3
      rw [if_pos (by omega)]
      have hbd:=g1.bd hl (by show 1≤n+1;omega) hb1
      refine ⟨_,pe_lpbad hs g1,c,out'++[((sgE l b).1,0,[],[])],?_,by simp;omega,by omega,g5⟩
      by_cases h3:(n:Int)=3
      ·rw [if_pos h3]
      ·rw [if_neg h3]
       obtain ⟨m',rfl⟩:∃ m',m=m'+1:=⟨m-1,by omega⟩
       show T64 Ops.std _ _ _ n p1 p2 p3 p4 _ some _=_
       unfold T64
       simp only [qai,qaa]
       rw [if_neg (by omega)]
    | ok c e2=>
      have g2:(Rec64 d).1 ((n+1:Nat):Int) l ((b+1:Nat):Int) (-1) (out0++e)=some (l,(c:Int),-1,out0++e++e2):=g2
      have hbd:=g1.bd hl (by show 1≤n+1;omega) hb1
      have hc1:b+1<c:=hbd.1
      have hc2:c<l.length:=hbd.2.1
      have hc3:e2.length≤c-(b+1):=hbd.2.2.1
      rw [g2,ob_s]
      dsimp only
      rw [if_pos (by simp only [List.length_append];omega)]
      by_cases h3:n=3
      ·subst h3
       rw [if_pos (by decide)]
       refine ⟨_,pe_three hs g1,?_⟩
       show some _=some _
       simp
      ·rw [if_neg (by omega)]
       obtain ⟨r,j1,j2⟩:=qej hl hll d n h1 h5 p1 p2 p3 p4 a0 out0 hb t c m (e++e2++[((sgE l b).1,0,[],[])]) (by omega) (by omega) (by omega) (by omega) hc2 (by omega) (by simp;omega)
       refine ⟨r,pe_more h3 hs g1 j1,?_⟩
       have ea:out0++(e++e2++[((sgE l b).1,0,[],[])])=out0++e++e2++[((sgE l b).1,0,[],[])]:=by simp
       rw [ea] at j2
       exact j2
   ·rw [if_neg hs,if_pos rfl]
    exact ⟨_,pe_stop hs,rfl⟩
theorem qci (hl:toksOK l) (hll:l.length<100000) (d:Nat) (hu:UuOK l d) (hv:LeOK l d) (p0:List Tok) (p1 p2:Int) (p3:List Trm) (op:Int) (a m:Nat) (out:List Trm) (hd:8*(l.length-a)≤d) (ha:a<l.length) (ho:out.length+(l.length-a)<200000)
  (hop:(op=0∧¬ isS l a [33]=true∧¬ isS l a [45]=true)∨(op=4∧isS l a [33]=true)∨(op=5∧isS l a [45]=true)):∃ r,PE l (.un a) r∧RsR l a out r (uuR d p0 p1 p2 p3 (m+1) (.l1006 op l a (-1) out)):=by
 have hU:uuR d p0 p1 p2 p3 (m+1) (.l1006 op l a (-1) out)=T99 Ops.std M124 (Rec64 d).2 M125 (Rec64 d).1 p0 p1 p2 p3 (uuR d p0 p1 p2 p3 m) some (some (.l1006 op l a (-1) out)):=rfl
 rw [hU]
 unfold T99
 have hw1:IntKind.wrap IntKind.i64 ((a:Int)+1)=((a+1:Nat):Int):=qae (by omega)
 simp only [qai,qau,qaj,qan,qas,qaa,qa6,qad,mt,List.length_cons,List.length_nil,hw1]
 rcases hop with ⟨rfl,n1,n2⟩ | hop
 ·rw [if_neg (fun h=>h rfl),if_pos (by omega)]
  by_cases k1:(l.getD a (Ty.dflt ty85)).1=1
  ·rw [if_pos k1,if_pos (by omega)]
   exact ⟨_,pe_num k1,rfl⟩
  ·rw [if_neg k1]
   by_cases k2:(l.getD a (Ty.dflt ty85)).1=2
   ·rw [if_pos k2]
    have h1:=qaq hl ha (Ty.dflt ty85) (by rw [k2];decide)
    have hpe:=pe_word k2
    rw [qeh [64] h1,ob_s]
    dsimp only
    cases hs:isS l (a+1) [64] with
    | false=>
      rw [if_neg (by rw [hs];decide)] at hpe
      simp only [cond_false]
      rw [if_pos (by omega)]
      exact ⟨_,hpe,rfl⟩
    | true=>
      rw [if_pos hs] at hpe
      have h2:=qaq hl h1 (Ty.dflt ty85) (by rw [show (l.getD (a+1) (Ty.dflt ty85)).1=4 from qb7 hs];decide)
      have hw2:IntKind.wrap IntKind.i64 (((a+1:Nat):Int)+1)=((a+2:Nat):Int):=qae (by omega)
      have hw3:IntKind.wrap IntKind.i64 (((a+2:Nat):Int)+1)=((a+3:Nat):Int):=qae (by omega)
      simp only [cond_true,hw2,hw3,qad]
      have hin:(0:Int)≤((a+2:Nat):Int)∧((a+2:Nat):Int)<(l.length:Int):=by omega
      simp only [if_pos hin]
      by_cases h3:(l.getD (a+2) (Ty.dflt ty85)).1=2
      ·rw [if_pos h3] at hpe
       rw [if_neg (fun h=>h h3),if_pos (by omega)]
       exact ⟨_,hpe,rfl⟩
      ·rw [if_neg h3] at hpe
       rw [if_pos h3,qei,ob_s]
       exact ⟨_,hpe,a+2,out,rfl,by omega,by omega,h2⟩
   ·rw [if_neg k2,qeh [40] ha,ob_s]
    dsimp only
    cases hs:isS l a [40] with
    | false=>
      simp only [cond_false]
      rw [qei,ob_s]
      exact ⟨_,pe_none n1 n2 k1 k2 (by rw [hs];decide),a,out,rfl,by omega,by omega,ha⟩
    | true=>
      simp only [cond_true,hw1]
      have h1:=qaq hl ha (Ty.dflt ty85) (by rw [show (l.getD a (Ty.dflt ty85)).1=4 from qb7 hs];decide)
      obtain ⟨r,g1,g2⟩:=hv 1 (a+1) out (by omega) (by omega) (by omega) h1 (by omega)
      have e1:((1:Nat):Int)=1:=rfl
      rw [e1] at g2
      cases r with
      | bad k=>
        obtain ⟨c,out',g2,g3,g4,g5⟩:=g2
        rw [g2,ob_s]
        dsimp only
        rw [if_pos (by omega)]
        exact ⟨_,pe_brab hs g1,c,out',rfl,by omega,by omega,g5⟩
      | ok b e=>
        have g2:(Rec64 d).1 1 l ((a+1:Nat):Int) (-1) out=some (l,(b:Int),-1,out++e):=g2
        have hbd:=g1.bd hl (Nat.le_refl 1) h1
        have hb1:a+1<b:=hbd.1
        have hb2:b<l.length:=hbd.2.1
        have hb3:e.length≤b-(a+1):=hbd.2.2.1
        rw [g2,ob_s]
        dsimp only
        rw [if_neg (by omega),qeh [41] hb2,ob_s]
        dsimp only
        refine ⟨_,pe_bra hs g1,?_⟩
        cases hs2:isS l b [41] with
        | false=>
          simp only [Bool.not_false,cond_true]
          rw [qei,ob_s]
          exact ⟨b,out++e,rfl,by simp;omega,by omega,hb2⟩
        | true=>
          have:IntKind.wrap IntKind.i64 ((b:Int)+1)=((b+1:Nat):Int):=qae (by omega)
          simp only [Bool.not_true,cond_false,this]
          exact rfl
 ·have h4:(tkD l a).1=4:=by
   rcases hop with h | h
   ·exact qb7 h.2
   ·exact qb7 h.2
  have h0:op≠0:=by
   rcases hop with h | h<;>omega
  have h1:=qaq hl ha (Ty.dflt ty85) (by rw [show (l.getD a (Ty.dflt ty85)).1=4 from h4];decide)
  rw [if_pos h0]
  obtain ⟨r,g1,g2⟩:=hu (a+1) out (by omega) h1 (by omega)
  have hbd:=g1.bd hl (by show 1≤6;omega) h1
  cases r with
  | bad k=>
    obtain ⟨c,out',g2,g3,g4,g5⟩:=g2
    rw [g2,ob_s]
    dsimp only
    rw [if_pos (by omega)]
    refine ⟨.bad k,?_,c,_,rfl,by simp;omega,by omega,g5⟩
    rcases hop with h | h
    ·exact pe_notb h.2 g1
    ·exact pe_negb h.2 g1
  | ok b e=>
    have g2:(Rec64 d).2 l ((a+1:Nat):Int) (-1) out=some (l,(b:Int),-1,out++e):=g2
    have hb3:e.length≤b-(a+1):=hbd.2.2.1
    have hb2:b<l.length:=hbd.2.1
    rw [g2,ob_s]
    dsimp only
    rw [if_pos (by simp only [List.length_append];omega)]
    rcases hop with ⟨rfl,h⟩ | ⟨rfl,h⟩
    ·refine ⟨_,pe_not h g1,?_⟩
     show some _=some _
     simp
    ·refine ⟨_,pe_neg h g1,?_⟩
     show some _=some _
     simp
theorem qe3 (hl:toksOK l) (hll:l.length<100000):∀ d,LeOK l d∧UuOK l d
 | 0=>⟨fun n a out _ _ h _ _=>(by omega),fun a out h _ _=>(by omega)⟩
 | d+1=>by
   obtain ⟨hv,hu⟩:=qe3 hl hll d
   refine ⟨fun n a out h1 h6 hd ha ho=>?_,fun a out hd ha ho=>?_⟩
   ·show ∃ r,PE l (.lv n a) r∧RsR l a out r (T64 Ops.std (Rec64 d).2 (Rec64 d).1 M100 n l a (-1) out (leR d n l a (-1) out 1000000) some none)
    unfold T64
    simp only [qai,qaa]
    by_cases h5:n=6
    ·subst h5
     rw [if_pos (by decide)]
     obtain ⟨r,g1,g2⟩:=hu a out (by omega) ha ho
     refine ⟨r,pe_six g1,?_⟩
     cases r with
     | bad k=>
       obtain ⟨c,out',g2,g3⟩:=g2
       rw [g2,ob_s]
       exact ⟨c,out',rfl,g3⟩
     | ok b e=>
       have g2:(Rec64 d).2 l (a:Int) (-1) out=some (l,(b:Int),-1,out++e):=g2
       rw [g2,ob_s]
       exact rfl
    ·have hwn:IntKind.wrap IntKind.i64 ((n:Int)+1)=((n+1:Nat):Int):=qae (by omega)
     rw [if_neg (by omega),hwn]
     have hsub:∀ (a:Nat) (out:List Trm),8*(l.length-a)+(6-n)<d→a<l.length→out.length+(l.length-a)<200000→∃ r,PE l (.lv (n+1) a) r∧RsR l a out r ((Rec64 d).1 ((n+1:Nat):Int) l a (-1) out):=fun a out h2 h3 h4=>hv (n+1) a out (by omega) (by omega) (by omega) h3 h4
     obtain ⟨r,g1,g2⟩:=hsub a out (by omega) ha ho
     cases r with
     | bad k=>
       obtain ⟨c,out',g2,g3,g4,g5⟩:=g2
       rw [g2,ob_s]
       dsimp only
       refine ⟨_,pe_bad h5 g1,c,out',?_,g3,g4,g5⟩
       show T64 Ops.std _ _ _ n l a (-1) out _ some _=_
       unfold T64
       simp only [qai,qaa]
       rw [if_neg (by omega)]
     | ok b e=>
       have g2:(Rec64 d).1 ((n+1:Nat):Int) l (a:Int) (-1) out=some (l,(b:Int),-1,out++e):=g2
       have hbd:=g1.bd hl (by show 1≤n+1;omega) ha
       have hc1:a<b:=hbd.1
       have hc2:b<l.length:=hbd.2.1
       have hc3:e.length≤b-a:=hbd.2.2.1
       rw [g2,ob_s]
       obtain ⟨r,j1,j2⟩:=qej hl hll d n h1 (by omega) l a (-1) out a out hsub (l.length-b) b 1000000 e (by omega) (by omega) (by omega) (by omega) hc2 ho hc3
       exact ⟨r,pe_lv h5 g1 j1,j2⟩
   ·show ∃ r,PE l (.un a) r∧RsR l a out r (T99 Ops.std M124 (Rec64 d).2 M125 (Rec64 d).1 l a (-1) out (uuR d l a (-1) out 1000000) some none)
    unfold T99
    simp only [qau,qaa]
    rw [if_neg (by omega),qeh [33] ha,ob_s]
    dsimp only
    cases h1:isS l a [33] with
    | true=>exact qci hl hll d hu hv l a (-1) out 4 a 999999 out (by omega) ha ho (.inr (.inl ⟨rfl,h1⟩))
    | false=>
      simp only [cond_false]
      rw [qeh [45] ha,ob_s]
      dsimp only
      cases h2:isS l a [45] with
      | true=>exact qci hl hll d hu hv l a (-1) out 5 a 999999 out (by omega) ha ho (.inr (.inr ⟨rfl,h2⟩))
      | false=>exact qci hl hll d hu hv l a (-1) out 0 a 999999 out (by omega) ha ho (.inl ⟨rfl,by rw [h1];decide,by rw [h2];decide⟩)
theorem take_ref (hl:toksOK l) (hll:l.length≤60001) {a:Nat} (ha:a<l.length):∃ r,PE l (.lv 1 a) r∧M26 l a=some (takeR a r):=by
 obtain ⟨r,g1,g2⟩:=(qe3 hl (by omega) 1000000).1 1 a [] (by omega) (by omega) (by omega) ha (by simp;omega)
 refine ⟨r,g1,?_⟩
 show T26 Ops.std M64 l a some=_
 unfold T26
 simp only [qai,qau,qaa,mt]
 cases r with
 | bad k=>
   obtain ⟨c,out',g2,_⟩:=g2
   have g2:M64 1 l (a:Int) (-1) []=some (l,(c:Int),(k:Int),out'):=g2
   rw [g2,ob_s]
   dsimp only
   rw [if_pos (by omega)]
   exact rfl
 | ok b e=>
   have g2:M64 1 l (a:Int) (-1) []=some (l,(b:Int),-1,[]++e):=g2
   rw [g2,ob_s]
   simp only [List.nil_append,takeR]
   rw [if_neg (by omega)]
   by_cases h:30<e.length
   ·rw [if_pos (by omega),if_pos h]
   ·rw [if_neg (by omega),if_neg h]
end
theorem parse_ref7 (s:List UInt8):∃ y,ParseIs s y∧M18 s=some y:=by
 have hM:M18 s=T18 Ops.std M23 M26 s some:=rfl
 rw [hM]
 unfold T18
 rw [lex_ref,ob_s]
 simp only [qan,qaj,qa6,qaa,mt]
 generalize hr:lexS s=y
 obtain ⟨e,x,l⟩:=y
 dsimp only
 by_cases he:e=0
 ·subst he
  obtain ⟨hl,hlen,hs⟩:=lexS_ok hr
  have hp:=qdu hl
  obtain ⟨r,g1,g2⟩:=take_ref hl (by omega) hp
  refine ⟨_,.inr ⟨x,l,r,hr,g1,rfl⟩,?_⟩
  obtain ⟨k,e,z,g3,g4⟩:=takeR_in hl hp g1
  rw [g3] at g2
  rw [g3]
  have g2:M26 l 0=some ((k:Int),e,z):=g2
  rw [if_neg (by simp),g2,ob_s]
  unfold parseR
  dsimp only
  simp only [qad]
  have hin:(0:Int)≤(k:Int)∧(k:Int)<(l.length:Int):=by omega
  simp only [if_pos hin]
  by_cases h0:e=0
  ·subst h0
   rw [if_neg (fun h=>h rfl),if_pos rfl]
   by_cases h5:(l.getD k (Ty.dflt ty85)).1=5
   ·rw [if_neg (fun h=>h h5),if_pos h5]
   ·rw [if_pos h5,if_neg h5]
  ·rw [if_pos h0,if_neg h0]
 ·rw [if_pos he]
  exact ⟨_,.inl ⟨e,x,l,hr,he,rfl⟩,rfl⟩
theorem parse_same (s:List UInt8):M17 s=M18 s:=by
 obtain ⟨y,h1,h2⟩:=qe2 s
 obtain ⟨z,g1,g2⟩:=parse_ref7 s
 rw [h2,g2,h1.det g1]
theorem known8_ok:M14=some true:=by kernel_rfl
theorem parseR_e {l:List Tok} {k e:Int} {x:List Trm} (h:e≠0):parseR l (k,e,x)=(e,(tkD l k.toNat).2.2.2,[]):=if_neg h
theorem ParseIs.good {s:List UInt8} {y:Int×Int×List Trm} (h:ParseIs s y):(y.1=0∧∃ t:Et,t.wf∧y.2.2=t.flat∧t.flat.length≤30)∨(y.1≠0∧y.2.2=[]):=by
 rcases h with ⟨e,x,l,h1,h2,rfl⟩ | ⟨x,l,r,h1,h2,rfl⟩
 ·exact .inr ⟨h2,rfl⟩
 ·obtain ⟨hl,hlen,hs⟩:=lexS_ok h1
  have hbd:=h2.bd hl (Nat.le_refl 1) (qdu hl)
  cases r with
  | bad k=>
    have e:parseR l (takeR 0 (.bad k))=(2,(tkD l (k:Int).toNat).2.2.2,[]):=parseR_e (by decide)
    rw [e]
    exact .inr ⟨by show (2:Int)≠0;decide,rfl⟩
  | ok b e=>
    by_cases h30:30<e.length
    ·have:takeR 0 (.ok b e)=(0,13,[]):=if_pos h30
     rw [this,parseR_e (by decide)]
     exact .inr ⟨by show (13:Int)≠0;decide,rfl⟩
    ·have:takeR 0 (.ok b e)=((b:Int),0,e):=if_neg h30
     rw [this]
     unfold parseR
     rw [if_pos rfl]
     by_cases h5:(tkD l ((b:Int)).toNat).1=5
     ·rw [if_pos h5]
      obtain ⟨t,t1,t2,t3⟩:=rightE_tree (hbd.2.2.2.right (by omega))
      exact .inl ⟨rfl,t,t1,t2,by rw [←t2];exact t3⟩
     ·rw [if_neg h5]
      exact .inr ⟨by show (2:Int)≠0;decide,rfl⟩
theorem wordLen {w:List UInt8} (h:isWordP w=true):w.length≤8:=by
 cases w with
 | nil=>simp
 | cons b r=>
   simp only [isWordP,Bool.and_eq_true,decide_eq_true_eq] at h
   simpa using h.2
theorem mayLen {t:Trm} (h:mayT t=true):t.2.2.1.length≤8∧t.2.2.2.length≤8:=by
 unfold mayT at h
 split at h
 ·simp only [Bool.and_eq_true,beq_iff_eq] at h
  rw [h.1.2,h.2];simp
 ·split at h
  ·simp only [Bool.and_eq_true,beq_iff_eq] at h
   rw [h.2];exact ⟨wordLen h.1.2,by simp⟩
  ·split at h
   ·simp only [Bool.and_eq_true] at h
    exact ⟨wordLen h.1.2,wordLen h.2⟩
   ·simp only [Bool.and_eq_true,beq_iff_eq] at h
    rw [h.1.2,h.2];simp
def dgT (n:Int):List UInt8:=(itoaF n).getD []
theorem itoa_is {n:Int} (h:0≤n∧n≤999):itoaF n=some (dgT n):=by
 unfold dgT itoaF
 rw [decide_eq_true h.1,decide_eq_true (show n<1000 by omega)]
 rfl
theorem dgT_len (n:Int):(dgT n).length≤3:=by
 unfold dgT itoaF
 cases decide (0≤n) && decide (n<1000) with
 | false=>exact Nat.zero_le _
 | true=>
   cases decide (n<10) with
   | true=>exact (show 1≤3 by decide)
   | false=>
     cases decide (n<100) with
     | true=>exact (show 2≤3 by decide)
     | false=>exact (show 3≤3 by decide)
def leafW (t:Trm):List UInt8:=if t.1=1 then dgT t.2.1 else if t.1=2 then t.2.2.1 else t.2.2.1++[64]++t.2.2.2
def brW (b:Bool) (s:List UInt8):List UInt8:=if b then [40]++s++[41] else s
def Et.prx:Et→List UInt8
 | .nul t=>leafW t
 | .un k x=>unW k++brW (decide (x.lv<6)) x.prx
 | .bi k x y=>brW (decide (x.lv<lfO (lvO k))) x.prx++opW k++brW (decide (y.lv<lvO k+1)) y.prx
theorem opW_len (k:Int):(opW k).length≤2:=by unfold opW;(repeat' split)<;>decide
theorem unW_len (k:Int):(unW k).length=1:=by unfold unW;split<;>rfl
theorem qbu (b:Bool) (s:List UInt8):(brW b s).length≤s.length+2:=by cases b<;>simp [brW]
theorem leafW_len {t:Trm} (h:mayT t=true):(leafW t).length≤17:=by
 have h8:=mayLen h
 have h3:=dgT_len t.2.1
 unfold leafW
 (repeat' split)
 ·omega
 ·omega
 ·simp;omega
theorem Et.prx_len:∀ (t:Et),t.wf→t.prx.length≤20*t.flat.length
 | .nul t,h=>by have:=leafW_len h.1;simp only [Et.prx,Et.flat,List.length_cons,List.length_nil];omega
 | .un k x,h=>by
   have h1:=x.prx_len h.2
   have h2:=qbu (decide (x.lv<6)) x.prx
   have h3:=unW_len k
   simp only [Et.prx,Et.flat,List.length_append,List.length_cons,List.length_nil]
   omega
 | .bi k x y,h=>by
   have h1:=x.prx_len h.2.1
   have h1':=y.prx_len h.2.2
   have h2:=qbu (decide (x.lv<lfO (lvO k))) x.prx
   have h2':=qbu (decide (y.lv<lvO k+1)) y.prx
   have h3:=opW_len k
   simp only [Et.prx,Et.flat,List.length_append,List.length_cons,List.length_nil]
   omega
theorem brk_prog (s:List UInt8) (n m:Int) (hs:s.length≤1000000):M52 s n m=some (brW (decide (n<m)) s):=by
 show T52 Ops.std s n m some=_
 unfold T52
 simp only [qai,qas,qaa]
 by_cases h:n<m
 ·rw [if_pos h,if_pos (by omega),if_pos (by simp;omega),decide_eq_true h];rfl
 ·rw [if_neg h,decide_eq_false h];rfl
theorem both_tab {k:Int} (h:6≤k∧k≤16) (a b:List UInt8) (la lb:Int):M53 k a la b lb=ob (M52 a la ((lfO (lvO k):Nat)-1)) fun y2=>cond (decide ((y2.length+(opW k).length)*1≤140737488355328)) (ob (M52 b lb (lvO k:Nat)) fun y3=>cond (decide (((y2++opW k).length+y3.length)*1≤140737488355328)) (some (y2++opW k++y3,((lvO k:Nat):Int)-1)) none) none:=by
 rcases bi_cases h with rfl | rfl | rfl | rfl | rfl | rfl | rfl | rfl | rfl | rfl | rfl
 all_goals kernel_rfl
theorem both_prog {k:Int} (h:6≤k∧k≤16) (a b:List UInt8) (la lb:Int) (ha:a.length≤1000000) (hb:b.length≤1000000):M53 k a la b lb=some (brW (decide (la<(lfO (lvO k):Nat)-1)) a++opW k++brW (decide (lb<(lvO k:Nat))) b,((lvO k:Nat):Int)-1):=by
 have h1:=qbu (decide (la<(lfO (lvO k):Nat)-1)) a
 have h2:=qbu (decide (lb<(lvO k:Nat))) b
 have h3:=opW_len k
 rw [both_tab h,brk_prog a _ _ ha,ob_s,brk_prog b _ _ hb,ob_s,decide_eq_true (by omega),decide_eq_true (by simp only [List.length_append];omega)]
 rfl
theorem may_num' {t:Trm} (h:mayT t=true) (h1:t.1=1):0≤t.2.1∧t.2.1≤999:=by
 unfold mayT at h
 rw [if_pos h1] at h
 simp only [Bool.and_eq_true,decide_eq_true_eq] at h
 exact ⟨h.1.1.1,h.1.1.2⟩
abbrev Sdt:=List UInt8×Int
noncomputable abbrev prP (e:List Trm):=R20 M22 M50 M51 M52 M53 e
section
variable {e:List Trm}
theorem prP_nul (i m:Nat) (st:List Sdt) (t:Trm) (hi:i<e.length) (hx:e.getD i (Ty.dflt ty56)=t) (ht:nulT t) (hl:e.length≤30) (hs:st.length≤100):prP e (m+1) (.l0 (e.length:Nat) i st)=prP e m (.l0 (e.length:Nat) ((i+1:Nat):Int) (st++[(leafW t,6)])):=by
 have hop:=ht.op
 obtain ⟨hm,hk⟩:=ht
 have h8:=mayLen hm
 have hU:prP e (m+1) (.l0 (e.length:Nat) i st)=T20 Ops.std M22 M50 M51 M52 M53 e (prP e m) some (some (.l0 (e.length:Nat) i st)):=rfl
 rw [hU]
 unfold T20
 have hw:IntKind.wrap IntKind.i64 ((st.length:Int)-0)=((st.length:Nat):Int):=by rw [wrap64 (by omega) (by omega)];omega
 simp only [qai,qaj,qan,qas,qaa,qad,hx,mt,List.length_cons,List.length_nil,qcr,ob_s,hop,hw,List.take_length,show IntKind.wrap IntKind.i64 ((i:Int)+1)=((i+1:Nat):Int) from qae (by omega)]
 rw [if_pos (by omega),if_pos (by omega)]
 have hin:(0:Int)≤((st.length:Nat):Int)∧((st.length:Nat):Int)<((st.length+1:Nat):Int):=by omega
 rcases hk with h1 | h2 | h3
 ·have hn:M51 t.2.1=some (dgT t.2.1):=itoa_is (may_num' hm h1)
  rw [if_pos h1,hn,ob_s,if_pos hin,if_pos (by omega)]
  unfold leafW
  rw [if_pos h1]
 ·rw [if_neg (by omega),if_pos h2,if_pos hin,if_pos (by omega)]
  unfold leafW
  rw [if_neg (by omega),if_pos h2]
 ·rw [if_neg (by omega),if_neg (by omega),if_pos h3,if_pos (by omega),if_pos (by simp;omega),if_pos hin,if_pos (by omega)]
  unfold leafW
  rw [if_neg (by omega),if_neg (by omega)]
theorem prP_un (i m:Nat) (st:List Sdt) (k:Int) (s:List UInt8) (n:Int) (hi:i<e.length) (hx:e.getD i (Ty.dflt ty56)=(k,0,[],[])) (hk:k=4∨k=5) (hl:e.length≤30) (hs:st.length≤100) (hs2:s.length≤1000):prP e (m+1) (.l0 (e.length:Nat) i (st++[(s,n)]))=prP e m (.l0 (e.length:Nat) ((i+1:Nat):Int) (st++[(unW k++brW (decide (n<5)) s,5)])):=by
 have hop:=opE_un hk
 have hb:=qbu (decide (n<5)) s
 have hU:prP e (m+1) (.l0 (e.length:Nat) i (st++[(s,n)]))=T20 Ops.std M22 M50 M51 M52 M53 e (prP e m) some (some (.l0 (e.length:Nat) i (st++[(s,n)]))):=rfl
 rw [hU]
 unfold T20
 have hlen:(st++[(s,n)]).length=st.length+1:=by simp
 have hw:IntKind.wrap IntKind.i64 (((st++[(s,n)]).length:Int)-1)=((st.length:Nat):Int):=by rw [hlen,wrap64 (by omega) (by omega)];omega
 have hg:(st++[(s,n)]).getD st.length (Ty.dflt ty88)=(s,n):=qa1 st (s,n) [] _
 have htk:(st++[(s,n)]).take st.length=st:=List.take_left
 simp only [qai,qaj,qan,qas,qaa,qad,hx,mt,List.length_cons,List.length_nil,qcr,ob_s,hop,hw,hg,htk,brk_prog s n 5 (by omega),show IntKind.wrap IntKind.i64 ((i:Int)+1)=((i+1:Nat):Int) from qae (by omega)]
 rw [if_pos (by omega),if_pos (by omega),if_neg (by omega),if_neg (by omega),if_neg (by omega)]
 have hin:(0:Int)≤((st.length:Nat):Int)∧((st.length:Nat):Int)<(((st++[(s,n)]).length:Nat):Int):=by omega
 have hin2:(0:Int)≤((st.length:Nat):Int)∧((st.length:Nat):Int)<(((st++[(s,n)]).length+1:Nat):Int):=by omega
 rcases hk with rfl | rfl
 ·rw [if_pos rfl,if_pos hin,if_pos (by omega),if_pos hin2,if_pos (by omega)]
  rfl
 ·rw [if_neg (by decide),if_pos rfl,if_pos hin,if_pos (by omega),if_pos hin2,if_pos (by omega)]
  rfl
theorem prP_bi (i m:Nat) (st:List Sdt) (k:Int) (a b:List UInt8) (la lb:Int) (hi:i<e.length) (hx:e.getD i (Ty.dflt ty56)=(k,0,[],[])) (hk:6≤k∧k≤16) (hl:e.length≤30) (hs:st.length≤100) (ha:a.length≤1000) (hb:b.length≤1000):prP e (m+1) (.l0 (e.length:Nat) i (st++[(a,la),(b,lb)]))=prP e m (.l0 (e.length:Nat) ((i+1:Nat):Int) (st++[(brW (decide (la<(lfO (lvO k):Nat)-1)) a++opW k++brW (decide (lb<(lvO k:Nat))) b,((lvO k:Nat):Int)-1)])):=by
 have hop:=opE_bi hk
 have hU:prP e (m+1) (.l0 (e.length:Nat) i (st++[(a,la),(b,lb)]))=T20 Ops.std M22 M50 M51 M52 M53 e (prP e m) some (some (.l0 (e.length:Nat) i (st++[(a,la),(b,lb)]))):=rfl
 rw [hU]
 unfold T20
 have hlen:(st++[(a,la),(b,lb)]).length=st.length+2:=by simp
 have hw:IntKind.wrap IntKind.i64 (((st++[(a,la),(b,lb)]).length:Int)-2)=((st.length:Nat):Int):=by rw [hlen,wrap64 (by omega) (by omega)];omega
 have hw1:IntKind.wrap IntKind.i64 (((st.length:Nat):Int)+1)=((st.length+1:Nat):Int):=qae (by omega)
 have hg:(st++[(a,la),(b,lb)]).getD st.length (Ty.dflt ty88)=(a,la):=qa1 st (a,la) [(b,lb)] _
 have hg1:(st++[(a,la),(b,lb)]).getD (st.length+1) (Ty.dflt ty88)=(b,lb):=by
  simp
 have htk:(st++[(a,la),(b,lb)]).take st.length=st:=List.take_left
 simp only [qai,qaj,qan,qas,qaa,qad,hx,mt,List.length_cons,List.length_nil,qcr,ob_s,hop,hw,hw1,hg,hg1,htk,both_prog hk a b la lb (by omega) (by omega),show IntKind.wrap IntKind.i64 ((i:Int)+1)=((i+1:Nat):Int) from qae (by omega)]
 rw [if_pos (by omega),if_pos (by omega),if_neg (by omega),if_neg (by omega),if_neg (by omega),if_neg (by omega),if_neg (by omega),if_pos (by omega),if_pos (by omega),if_pos (by omega),if_pos (by omega)]
theorem qdw (hl:e.length≤30):∀ (t:Et),t.wf→∀ (pre rest:List Trm) (st:List Sdt) (m:Nat),e=pre++(t.flat++rest)→st.length+t.flat.length≤40→
  prP e (m+t.flat.length) (.l0 (e.length:Nat) (pre.length:Nat) st)=prP e m (.l0 (e.length:Nat) ((pre.length+t.flat.length:Nat):Int) (st++[(t.prx,((t.lv:Nat):Int)-1)]))
 | .nul t,h,pre,rest,st,m,he,hs=>by
   have hx:e.getD pre.length (Ty.dflt ty56)=t:=by rw [he];exact qa1 pre t rest _
   exact prP_nul pre.length m st t (by rw [he];simp [Et.flat]) hx h hl (by omega)
 | .un k x,h,pre,rest,st,m,he,hs=>by
   have hf:(Et.un k x).flat.length=x.flat.length+1:=by simp [Et.flat]
   have he1:e=pre++(x.flat++((k,0,[],[])::rest)):=by rw [he];simp [Et.flat]
   have ih:=qdw hl x h.2 pre _ st (m+1) he1 (by omega)
   have hel:e.length=pre.length+(x.flat.length+(rest.length+1)):=by rw [he1];simp
   have hx:e.getD (pre.length+x.flat.length) (Ty.dflt ty56)=(k,0,[],[]):=by
    rw [he1,←List.append_assoc,←List.length_append];exact qa1 _ _ rest _
   have hlen:=x.prx_len h.2
   rw [hf,show m+(x.flat.length+1)=m+1+x.flat.length by omega,ih,prP_un _ m st k x.prx _ (by omega) hx h.1 hl (by omega) (by omega)]
   have hd:decide (((x.lv:Nat):Int)-1<5)=decide (x.lv<6):=by congr 1;exact propext ⟨fun h=>by omega,fun h=>by omega⟩
   rw [hd]
   rfl
 | .bi k x y,h,pre,rest,st,m,he,hs=>by
   have hf:(Et.bi k x y).flat.length=x.flat.length+y.flat.length+1:=by simp [Et.flat];omega
   have he1:e=pre++(x.flat++(y.flat++((k,0,[],[])::rest))):=by rw [he];simp [Et.flat]
   have hel:e.length=pre.length+(x.flat.length+(y.flat.length+(rest.length+1))):=by rw [he1];simp
   have ih:=qdw hl x h.2.1 pre _ st (m+1+y.flat.length) he1 (by omega)
   have ih2:=qdw hl y h.2.2 (pre++x.flat) ((k,0,[],[])::rest) (st++[(x.prx,((x.lv:Nat):Int)-1)]) (m+1) (by rw [he1];simp) (by simp;omega)
   rw [List.length_append] at ih2
   have hx:e.getD (pre.length+x.flat.length+y.flat.length) (Ty.dflt ty56)=(k,0,[],[]):=by
    rw [he1,←List.append_assoc,←List.append_assoc,←List.length_append,←List.length_append];exact qa1 _ _ rest _
   have hlen:=x.prx_len h.2.1
   have hlen2:=y.prx_len h.2.2
   have hst:st++[(x.prx,((x.lv:Nat):Int)-1)]++[(y.prx,((y.lv:Nat):Int)-1)]=st++[(x.prx,((x.lv:Nat):Int)-1),(y.prx,((y.lv:Nat):Int)-1)]:=by simp
   rw [hf,show m+(x.flat.length+y.flat.length+1)=m+1+y.flat.length+x.flat.length by omega,ih,ih2,hst,prP_bi _ m st k x.prx y.prx _ _ (by omega) hx h.1 hl (by omega) (by omega) (by omega)]
   have hd:decide (((x.lv:Nat):Int)-1<(lfO (lvO k):Nat)-1)=decide (x.lv<lfO (lvO k)):=by congr 1;exact propext ⟨fun h=>by omega,fun h=>by omega⟩
   have hd2:decide (((y.lv:Nat):Int)-1<(lvO k:Nat))=decide (y.lv<lvO k+1):=by congr 1;exact propext ⟨fun h=>by omega,fun h=>by omega⟩
   rw [hd,hd2,show pre.length+x.flat.length+y.flat.length+1=pre.length+(x.flat.length+y.flat.length+1) by omega]
   rfl
end
theorem print_prog {t:Et} (h:t.wf) (hl:t.flat.length≤30):M20 t.flat=some t.prx:=by
 show T20 Ops.std M22 M50 M51 M52 M53 t.flat (prP t.flat 1000000) some none=_
 unfold T20
 rw [qch t.flat (by omega),ob_s,qbt h hl]
 simp only [Bool.not_true,cond_false]
 have:=qdw (e:=t.flat) hl t h [] [] [] (1000000-t.flat.length) (by simp) (by simp;omega)
 rw [show 1000000-t.flat.length+t.flat.length=1000000 by omega] at this
 refine Eq.trans this ?_
 obtain ⟨m,hm⟩:∃ m,1000000-t.flat.length=m+1:=⟨1000000-t.flat.length-1,by omega⟩
 rw [hm]
 have hU:∀ (i:Int) (st:List Sdt),prP t.flat (m+1) (.l0 (t.flat.length:Nat) i st)=T20 Ops.std M22 M50 M51 M52 M53 t.flat (prP t.flat m) some (some (.l0 (t.flat.length:Nat) i st)):=fun _ _=>rfl
 rw [hU]
 unfold T20
 simp only [qai,qaj,qaa]
 rw [if_neg (by simp),if_pos (by simp)]
 rfl
theorem print_nil:M20 []=some []:=by
 show T20 Ops.std M22 M50 M51 M52 M53 [] (prP [] 1000000) some none=_
 unfold T20
 rw [qch [] (by decide),ob_s]
 rfl
theorem decimal_all:(List.range 1000).all (fun n=>M56 (n:Int) == itoaF (n:Int))=true:=by kernel_rfl
theorem decimal_is {n:Int} (h:0≤n∧n≤999):M56 n=some (dgT n):=by
 obtain ⟨k,rfl⟩:∃ k:Nat,n=(k:Int):=⟨n.toNat,by omega⟩
 have:=List.all_eq_true.1 decimal_all k (List.mem_range.2 (by omega))
 rw [beq_iff_eq] at this
 rw [this,itoa_is h]
theorem tb_un {k:Int} (h:k=4∨k=5):List.getD (mt UInt8::mt UInt8::mt UInt8::mt UInt8::([33]:List UInt8)::([45]:List UInt8)::([42]:List UInt8)::([43]:List UInt8)::([45]:List UInt8)::([60]:List UInt8)::([60,61]:List UInt8)::([62]:List UInt8)::([62,61]:List UInt8)::([61,61]:List UInt8)::([33,61]:List UInt8)::([38,38]:List UInt8)::([124,124]:List UInt8)::mt (List UInt8)) k.toNat (mt UInt8)=unW k:=by
 rcases h with rfl | rfl<;>rfl
theorem tb_bi {k:Int} (h:6≤k∧k≤16):List.getD (mt UInt8::mt UInt8::mt UInt8::mt UInt8::([33]:List UInt8)::([45]:List UInt8)::([42]:List UInt8)::([43]:List UInt8)::([45]:List UInt8)::([60]:List UInt8)::([60,61]:List UInt8)::([62]:List UInt8)::([62,61]:List UInt8)::([61,61]:List UInt8)::([33,61]:List UInt8)::([38,38]:List UInt8)::([124,124]:List UInt8)::mt (List UInt8)) k.toNat (mt UInt8)=opW k:=by
 rcases bi_cases h with rfl | rfl | rfl | rfl | rfl | rfl | rfl | rfl | rfl | rfl | rfl<;>rfl
theorem str_nul {t:Trm} (h:nulT t):M54 t.1=some 7:=by
 obtain ⟨_,h | h | h⟩:=h<;>rw [h]<;>rfl
theorem str_un {k:Int} (h:k=4∨k=5):M54 k=some 6:=by rcases h with rfl | rfl<;>rfl
theorem str_bi {k:Int} (h:6≤k∧k≤16):M54 k=some ((lvO k:Nat):Int):=by
 rcases bi_cases h with rfl | rfl | rfl | rfl | rfl | rfl | rfl | rfl | rfl | rfl | rfl<;>rfl
theorem qcv (s:List UInt8) (n m:Int) (hs:s.length≤1000000):M57 s n m=some (brW (decide (n<m)) s):=by
 show T57 Ops.std s n m some=_
 unfold T57
 simp only [qai,qas,qaa]
 by_cases h:n<m
 ·rw [if_pos h,if_pos (by omega),if_pos (by simp;omega),decide_eq_true h];rfl
 ·rw [if_neg h,decide_eq_false h];rfl
noncomputable abbrev prQ (e:List Trm):=R21 M36 M54 M55 M56 M57 e
section
variable {e:List Trm}
theorem prQ_nul (i m:Nat) (st:List Sdt) (t:Trm) (hi:i<e.length) (hx:e.getD i (Ty.dflt ty56)=t) (ht:nulT t) (hl:e.length≤30) (hs:st.length≤100):prQ e (m+1) (.l0 i st)=prQ e m (.l0 ((i+1:Nat):Int) (st++[(leafW t,7)])):=by
 have hop:=ht.op
 have hst:=str_nul ht
 obtain ⟨hm,hk⟩:=ht
 have h8:=mayLen hm
 have hU:prQ e (m+1) (.l0 i st)=T21 Ops.std M36 M54 M55 M56 M57 e (prQ e m) some (some (.l0 i st)):=rfl
 rw [hU]
 unfold T21
 simp only [qai,qaj,qan,qas,qaa,qad,hx,mt,List.length_cons,List.length_nil,opE_ref,hst,ob_s,hop,show IntKind.wrap IntKind.i64 ((i:Int)+1)=((i+1:Nat):Int) from qae (by omega)]
 rw [if_pos (by omega),if_pos (by omega),if_pos trivial]
 rcases hk with h1 | h2 | h3
 ·rw [if_pos h1,decimal_is (may_num' hm h1),ob_s,if_pos (by omega)]
  unfold leafW
  rw [if_pos h1]
 ·rw [if_neg (by omega),if_pos h2,if_pos (by omega)]
  unfold leafW
  rw [if_neg (by omega),if_pos h2]
 ·rw [if_neg (by omega),if_neg (by omega),if_pos (by omega),if_pos (by simp;omega),if_pos (by omega)]
  unfold leafW
  rw [if_neg (by omega),if_neg (by omega)]
theorem prQ_un (i m:Nat) (st:List Sdt) (k:Int) (s:List UInt8) (n:Int) (hi:i<e.length) (hx:e.getD i (Ty.dflt ty56)=(k,0,[],[])) (hk:k=4∨k=5) (hl:e.length≤30) (hs:st.length≤100) (hs2:s.length≤1000):prQ e (m+1) (.l0 i (st++[(s,n)]))=prQ e m (.l0 ((i+1:Nat):Int) (st++[(unW k++brW (decide (n<6)) s,6)])):=by
 have hop:=opE_un hk
 have hst:=str_un hk
 have hb:=qbu (decide (n<6)) s
 have hu:=unW_len k
 have hU:prQ e (m+1) (.l0 i (st++[(s,n)]))=T21 Ops.std M36 M54 M55 M56 M57 e (prQ e m) some (some (.l0 i (st++[(s,n)]))):=rfl
 rw [hU]
 unfold T21
 have hlen:(st++[(s,n)]).length=st.length+1:=by simp
 have hw:IntKind.wrap IntKind.i64 (((st++[(s,n)]).length:Int)-1)=((st.length:Nat):Int):=by rw [hlen,wrap64 (by omega) (by omega)];omega
 have hg:(st++[(s,n)]).getD st.length (Ty.dflt ty93)=(s,n):=qa1 st (s,n) [] _
 have htk:(st++[(s,n)]).take st.length=st:=List.take_left
 have htb:=tb_un hk
 simp only [mt] at htb
 simp only [qai,qaj,qan,qas,qaa,qad,hx,mt,List.length_cons,List.length_nil,opE_ref,hst,ob_s,hop,hw,hg,htk,htb,qcv s n 6 (by omega),show IntKind.wrap IntKind.i64 ((i:Int)+1)=((i+1:Nat):Int) from qae (by omega)]
 rw [if_pos (by omega),if_pos (by omega),if_neg (by omega),if_pos trivial,if_neg (by omega),if_pos (by omega),if_pos (by omega),if_pos (by omega),if_pos (by omega),if_pos (by omega)]
theorem prQ_bi (i m:Nat) (st:List Sdt) (k:Int) (a b:List UInt8) (la lb:Int) (hi:i<e.length) (hx:e.getD i (Ty.dflt ty56)=(k,0,[],[])) (hk:6≤k∧k≤16) (hl:e.length≤30) (hs:st.length≤100) (ha:a.length≤1000) (hb:b.length≤1000):prQ e (m+1) (.l0 i (st++[(a,la),(b,lb)]))=prQ e m (.l0 ((i+1:Nat):Int) (st++[(brW (decide (la<(lfO (lvO k):Nat))) a++opW k++brW (decide (lb<(lvO k+1:Nat))) b,((lvO k:Nat):Int))])):=by
 have hop:=opE_bi hk
 have hst:=str_bi hk
 have hl5:=lvO_le k
 have ha2:=qbu (decide (la<(lfO (lvO k):Nat))) a
 have hb2:=qbu (decide (lb<(lvO k+1:Nat))) b
 have ho:=opW_len k
 have hU:prQ e (m+1) (.l0 i (st++[(a,la),(b,lb)]))=T21 Ops.std M36 M54 M55 M56 M57 e (prQ e m) some (some (.l0 i (st++[(a,la),(b,lb)]))):=rfl
 rw [hU]
 unfold T21
 have hlen:(st++[(a,la),(b,lb)]).length=st.length+2:=by simp
 have hw:IntKind.wrap IntKind.i64 (((st++[(a,la),(b,lb)]).length:Int)-2)=((st.length:Nat):Int):=by rw [hlen,wrap64 (by omega) (by omega)];omega
 have hw1:IntKind.wrap IntKind.i64 (((st++[(a,la),(b,lb)]).length:Int)-1)=((st.length+1:Nat):Int):=by rw [hlen,wrap64 (by omega) (by omega)];omega
 have hw2:IntKind.wrap IntKind.i64 (((lvO k:Nat):Int)+1)=((lvO k+1:Nat):Int):=qae (by omega)
 have hg:(st++[(a,la),(b,lb)]).getD st.length (Ty.dflt ty93)=(a,la):=qa1 st (a,la) [(b,lb)] _
 have hg1:(st++[(a,la),(b,lb)]).getD (st.length+1) (Ty.dflt ty93)=(b,lb):=by
  simp
 have htk:(st++[(a,la),(b,lb)]).take st.length=st:=List.take_left
 have htb:=tb_bi hk
 simp only [mt] at htb
 simp only [qai,qaj,qan,qas,qaa,qad,hx,mt,List.length_cons,List.length_nil,opE_ref,hst,ob_s,hop,hw,hw1,hw2,hg,hg1,htk,htb,qcv b lb _ (show b.length≤1000000 by omega),show IntKind.wrap IntKind.i64 ((i:Int)+1)=((i+1:Nat):Int) from qae (by omega)]
 rw [if_pos (by omega),if_pos (by omega),if_neg (by omega),if_neg (by omega),if_neg (by omega)]
 by_cases h3:lvO k=3
 ·have hlf:lfO (lvO k)=4:=if_pos h3
  rw [hlf] at ha2 ⊢
  rw [if_pos (by omega),if_pos (by omega),if_pos (by omega),if_pos (by omega),qcv a la 4 (by omega),ob_s]
  have e4:((4:Nat):Int)=4:=rfl
  rw [e4] at ha2 ⊢
  rw [if_pos (by omega),if_pos (by simp only [List.length_append];omega),if_pos (by omega),if_pos (by omega)]
 ·have hlf:lfO (lvO k)=lvO k:=if_neg h3
  rw [hlf] at ha2 ⊢
  rw [if_neg (by omega),if_pos (by omega),if_pos (by omega),if_pos (by omega),qcv a la _ (by omega),ob_s]
  rw [if_pos (by omega),if_pos (by simp only [List.length_append];omega),if_pos (by omega),if_pos (by omega)]
theorem qdx (hl:e.length≤30):∀ (t:Et),t.wf→∀ (pre rest:List Trm) (st:List Sdt) (m:Nat),e=pre++(t.flat++rest)→st.length+t.flat.length≤40→
  prQ e (m+t.flat.length) (.l0 (pre.length:Nat) st)=prQ e m (.l0 ((pre.length+t.flat.length:Nat):Int) (st++[(t.prx,((t.lv:Nat):Int))]))
 | .nul t,h,pre,rest,st,m,he,hs=>by
   have hx:e.getD pre.length (Ty.dflt ty56)=t:=by rw [he];exact qa1 pre t rest _
   exact prQ_nul pre.length m st t (by rw [he];simp [Et.flat]) hx h hl (by omega)
 | .un k x,h,pre,rest,st,m,he,hs=>by
   have hf:(Et.un k x).flat.length=x.flat.length+1:=by simp [Et.flat]
   have he1:e=pre++(x.flat++((k,0,[],[])::rest)):=by rw [he];simp [Et.flat]
   have ih:=qdx hl x h.2 pre _ st (m+1) he1 (by omega)
   have hel:e.length=pre.length+(x.flat.length+(rest.length+1)):=by rw [he1];simp
   have hx:e.getD (pre.length+x.flat.length) (Ty.dflt ty56)=(k,0,[],[]):=by
    rw [he1,←List.append_assoc,←List.length_append];exact qa1 _ _ rest _
   have hlen:=x.prx_len h.2
   rw [hf,show m+(x.flat.length+1)=m+1+x.flat.length by omega,ih,prQ_un _ m st k x.prx _ (by omega) hx h.1 hl (by omega) (by omega)]
   have hd:decide (((x.lv:Nat):Int)<6)=decide (x.lv<6):=by congr 1;exact propext ⟨fun h=>by omega,fun h=>by omega⟩
   rw [hd]
   rfl
 | .bi k x y,h,pre,rest,st,m,he,hs=>by
   have hf:(Et.bi k x y).flat.length=x.flat.length+y.flat.length+1:=by simp [Et.flat];omega
   have he1:e=pre++(x.flat++(y.flat++((k,0,[],[])::rest))):=by rw [he];simp [Et.flat]
   have hel:e.length=pre.length+(x.flat.length+(y.flat.length+(rest.length+1))):=by rw [he1];simp
   have ih:=qdx hl x h.2.1 pre _ st (m+1+y.flat.length) he1 (by omega)
   have ih2:=qdx hl y h.2.2 (pre++x.flat) ((k,0,[],[])::rest) (st++[(x.prx,((x.lv:Nat):Int))]) (m+1) (by rw [he1];simp) (by simp;omega)
   rw [List.length_append] at ih2
   have hx:e.getD (pre.length+x.flat.length+y.flat.length) (Ty.dflt ty56)=(k,0,[],[]):=by
    rw [he1,←List.append_assoc,←List.append_assoc,←List.length_append,←List.length_append];exact qa1 _ _ rest _
   have hlen:=x.prx_len h.2.1
   have hlen2:=y.prx_len h.2.2
   have hst:st++[(x.prx,((x.lv:Nat):Int))]++[(y.prx,((y.lv:Nat):Int))]=st++[(x.prx,((x.lv:Nat):Int)),(y.prx,((y.lv:Nat):Int))]:=by simp
   rw [hf,show m+(x.flat.length+y.flat.length+1)=m+1+y.flat.length+x.flat.length by omega,ih,ih2,hst,prQ_bi _ m st k x.prx y.prx _ _ (by omega) hx h.1 hl (by omega) (by omega) (by omega)]
   have hd:decide (((x.lv:Nat):Int)<(lfO (lvO k):Nat))=decide (x.lv<lfO (lvO k)):=by congr 1;exact propext ⟨fun h=>by omega,fun h=>by omega⟩
   have hd2:decide (((y.lv:Nat):Int)<(lvO k+1:Nat))=decide (y.lv<lvO k+1):=by congr 1;exact propext ⟨fun h=>by omega,fun h=>by omega⟩
   rw [hd,hd2,show pre.length+x.flat.length+y.flat.length+1=pre.length+(x.flat.length+y.flat.length+1) by omega]
   rfl
end
theorem smallE_tree {t:Et} (h:t.wf) (hl:t.flat.length≤30):smallE t.flat:=by
 refine ⟨by omega,fun p hp=>?_⟩
 have hr:=qbt h hl
 unfold rightE fin30 at hr
 cases hg:eGo t.flat 0 with
 | none=>rw [hg] at hr;cases hr
 | some d=>
   have hm:∀ (e:List Trm) (d n:Int),eGo e d=some n→∀ t∈e,mayT t=true:=by
    intro e
    induction e with
    | nil=>intro d n _ t ht;cases ht
    | cons p r ih=>
      intro d n h t ht
      simp only [eGo] at h
      split at h
      ·cases h
      ·rename_i hc
       simp only [Bool.or_eq_true,Bool.not_eq_true',not_or,Bool.not_eq_false] at hc
       rcases List.mem_cons.1 ht with rfl | ht
       ·exact hc.1
       ·exact ih _ n h t ht
   have:=mayLen (hm _ _ _ hg p hp)
   omega
theorem print_ref {t:Et} (h:t.wf) (hl:t.flat.length≤30):M21 t.flat=some t.prx:=by
 show T21 Ops.std M36 M54 M55 M56 M57 t.flat (prQ t.flat 1000000) some none=_
 unfold T21
 rw [qde t.flat (smallE_tree h hl) (by omega),ob_s,qbt h hl]
 simp only [Bool.not_true,cond_false]
 have:=qdx (e:=t.flat) hl t h [] [] [] (1000000-t.flat.length) (by simp) (by simp;omega)
 rw [show 1000000-t.flat.length+t.flat.length=1000000 by omega] at this
 refine Eq.trans this ?_
 obtain ⟨m,hm⟩:∃ m,1000000-t.flat.length=m+1:=⟨1000000-t.flat.length-1,by omega⟩
 rw [hm]
 have hU:∀ (i:Int) (st:List Sdt),prQ t.flat (m+1) (.l0 i st)=T21 Ops.std M36 M54 M55 M56 M57 t.flat (prQ t.flat m) some (some (.l0 i st)):=fun _ _=>rfl
 rw [hU]
 unfold T21
 simp only [qai,qan,qaj,qaa]
 rw [if_neg (by simp),if_neg (by simp),if_pos (by simp)]
 rfl
theorem print_refno {e:List Trm} (he:smallE e) (h3:e.length<300000) (h:rightE e=false):M21 e=some []:=by
 show T21 Ops.std M36 M54 M55 M56 M57 e (prQ e 1000000) some none=_
 unfold T21
 rw [qde e he h3,ob_s,h]
 rfl
theorem same_self (l:List Trm) (hl:l.length≤100000):M19 l l=some true:=sameE_self l (by omega)
theorem prints_ok {s:List UInt8} {y:Int×Int×List Trm} (h:ParseIs s y):∃ w,M20 y.2.2=some w∧M21 y.2.2=some w∧(y.1=0→M22 y.2.2=some true)∧y.2.2.length≤100:=by
 rcases h.good with ⟨h0,t,t1,t2,t3⟩ | ⟨h0,h1⟩
 ·rw [t2]
  exact ⟨t.prx,print_prog t1 t3,print_ref t1 t3,fun _=>by rw [qch _ (by omega),qbt t1 t3],by omega⟩
 ·rw [h1]
  exact ⟨[],print_nil,print_refno ⟨by decide,fun p hp=>by cases hp⟩ (by decide) rfl,fun h=>absurd h h0,by decide⟩
theorem takeR_len {l:List Tok} (hl:toksOK l) {a:Nat} (ha:a<l.length) {r:PR} (h:PE l (.lv 1 a) r):(takeR a r).2.2.length≤100:=by
 cases r with
 | ok b e=>
   by_cases h30:30<e.length
   ·have:takeR a (.ok b e)=((a:Int),13,[]):=if_pos h30
    rw [this];exact Nat.zero_le _
   ·have:takeR a (.ok b e)=((b:Int),0,e):=if_neg h30
    rw [this];show e.length≤100;omega
 | bad k=>exact Nat.zero_le _
noncomputable abbrev teR (p0 p1:List Int) (p2:List UInt8) (p3:Bool) (p4:Int):=R3 M14 M16 M15 M17 M18 M19 M20 M21 M22 M23 M24 M25 M26 p0 p1 p2 p3 p4
theorem tells_take (p0 p1:List Int) (p2:List UInt8) (p3:Bool) (p4:Int) (s:List UInt8) (m:Nat):teR p0 p1 p2 p3 p4 (m+1) (.l1010 s)=some true:=by
 have hU:teR p0 p1 p2 p3 p4 (m+1) (.l1010 s)=T3 Ops.std M14 M16 M15 M17 M18 M19 M20 M21 M22 M23 M24 M25 M26 p0 p1 p2 p3 p4 (teR p0 p1 p2 p3 p4 m) some (some (.l1010 s)):=rfl
 rw [hU]
 unfold T3
 simp only [lex_ref,ob_s,qan,qa6,qaa,known8_ok]
 generalize hr:lexS s=z
 obtain ⟨e,x,l⟩:=z
 dsimp only
 by_cases he:e=0
 ·subst he
  obtain ⟨hl,hlen,hs⟩:=lexS_ok hr
  have hp:=qdu hl
  obtain ⟨k,hk,hpk⟩:=pickN p4 l.length hp (by omega)
  obtain ⟨r,g1,g2⟩:=take_prog hl (by omega) hk
  obtain ⟨r',j1,j2⟩:=take_ref hl (by omega) hk
  rw [j1.det g1] at j2
  rw [if_neg (by simp),hpk,ob_s,g2,ob_s,j2,ob_s]
  simp only [cond_true]
  rw [if_pos trivial,if_pos trivial,same_self _ (by have:=takeR_len hl hk g1;omega),ob_s]
 ·rw [if_pos he]
theorem plainExprTells (p0 p1:List Int) (p2:List UInt8) (p3:Bool) (p4:Int) (w0:Ty.wf ty22 p0) (w1:Ty.wf ty22 p1) (w2:p2.length≤maxLen) (w3:True) (w4:(Lit.int .i64 p4).wf=true):M3 p0 p1 p2 p3 p4=some true:=by
 have hM:M3 p0 p1 p2 p3 p4=T3 Ops.std M14 M16 M15 M17 M18 M19 M20 M21 M22 M23 M24 M25 M26 p0 p1 p2 p3 p4 (teR p0 p1 p2 p3 p4 1000000) some none:=rfl
 obtain ⟨s,hs,hsl⟩:=Expr_ok p0
 obtain ⟨s',hs',_⟩:=Bent_ok s p1 (by omega)
 rw [hM]
 unfold T3
 simp only [known8_ok,ob_s,Bool.not_true,cond_false,hs,hs',qan,qa6,qaa]
 have key:∀ q:List UInt8,(ob (M17 q) fun y3=>ob (M18 q) fun y4=>if ¬ y3.1=y4.1 then some false else if ¬ y3.2.1=y4.2.1 then some false else ob (M19 y3.2.2 y4.2.2) fun y5=>cond (!y5) (some false) (ob (M20 y3.2.2) fun y6=>ob (M21 y4.2.2) fun y7=>cond (!y6 == y7) (some false) (if y4.1=0 then (ob (M22 y3.2.2) fun y8=>cond (!y8) (some false) (teR p0 p1 p2 p3 p4 1000000 (.l1010 q))) else teR p0 p1 p2 p3 p4 1000000 (.l1010 q))))=some true:=fun q=>by
  have ht:=tells_take p0 p1 p2 p3 p4 q 999999
  obtain ⟨y,hy,hp⟩:=qe2 q
  obtain ⟨w,w1,w2,w3,w4⟩:=prints_ok hy
  rw [←parse_same q,hp,ob_s,ob_s,if_neg (by simp),if_neg (by simp),same_self _ (by omega),ob_s]
  simp only [Bool.not_true,cond_false]
  rw [w1,ob_s,w2,ob_s]
  simp only [beq_self_eq_true,Bool.not_true,cond_false]
  by_cases h0:y.1=0
  ·rw [if_pos h0,w3 h0,ob_s]
   exact ht
  ·rw [if_neg h0]
   exact ht
 cases p3 with
 | true=>exact key p2
 | false=>exact key s'
end Go.Proofs.YtkmpkebaloejhaaDoor.Av
