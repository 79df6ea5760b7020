/- The plain law of FormulaRight: what its twin computes answers true. Conditions: none. -/
import Derived.Test.YtkmpkebaloejhaaGreatDoorPFormulaRightb
set_option maxRecDepth 100000
namespace Go.Proofs.YtkmpkebaloejhaaGreatDoor.Av
open Go
noncomputable abbrev flR (d:Nat):=R19 (Rec19 d).2 (Rec19 d).1 M49
noncomputable abbrev fuR (d:Nat):=R48 M82 (Rec19 d).2 (Rec19 d).1 M83 M84 M20
section
variable {l:List Tok}
abbrev FU (l:List Tok) (d:Nat):Prop:=∀ (a:Nat) (pl:Int) (out:List Prt),8*(l.length-a)<d→a<l.length→out.length+(l.length-a)<200000→Rf l a out ((Rec19 d).2 l a 0 pl out)
abbrev FL (l:List Tok) (d:Nat):Prop:=∀ (n a:Nat) (pl:Int) (out:List Prt),1≤n→n≤5→8*(l.length-a)+(6-n)<d→a<l.length→out.length+(l.length-a)<200000→Rf l a out ((Rec19 d).1 (n:Nat) l a 0 pl out)
theorem opn_op {k:Int} (h:opLv k):opn k=2:=by
 unfold opLv at h
 rcases h with h | h | h | h | h<;>subst h<;>rfl
theorem qfa (hl:toksOK l) (hll:l.length<100000) (d:Nat) (n:Nat) (hn0:1≤n) (hn:n≤4) (p1:List Tok) (p2 p3 p4:Int) (p5:List Prt) (a0:Nat) (out0:List Prt)
  (hsub:∀ (k a:Nat) (pl:Int) (out:List Prt),(k=n∨k=n+1)→a0<a→a<l.length→out.length+(l.length-a)<200000→Rf l a out ((Rec19 d).1 (k:Nat) l a 0 pl out)) :
  ∀ (t a m:Nat) (bad pl:Int) (out:List Prt),l.length-a≤t→t<m→a0≤a→a<l.length→out.length+(l.length-a)<200000→out.length≤out0.length+(a-a0)→((bad=0∧a0<a∧∃ e,goodF e∧out=out0++e)∨(bad≠0∧0≤pl∧pl<l.length))→
    Rf l a0 out0 (flR d n p1 p2 p3 p4 p5 m (.l0 l a bad pl out))
 | t,a,0,bad,pl,out,ht,hm,ha0,ha,ho,hol,hb=>by omega
 | 0,a,m+1,bad,pl,out,ht,hm,ha0,ha,ho,hol,hb=>by omega
 | t+1,a,m+1,bad,pl,out,ht,hm,ha0,ha,ho,hol,hb=>by
   show Rf l a0 out0 (T19 Ops.std _ _ _ n p1 p2 p3 p4 p5 _ some _)
   unfold T19
   simp only [qah,qaj,qal,qan,qaa,qaf,mt,List.length_cons,List.length_nil]
   rcases hb with ⟨rfl,haa,e,he,rfl⟩ | ⟨h1,h2⟩
   ·obtain ⟨op,hop,hop2⟩:=infix_ok l a ha 0 pl (out0++e) n hn0 hn
    rw [if_pos rfl,hop,ob_s]
    dsimp only
    by_cases h0:op=0
    ·rw [if_pos h0]
     exact ⟨a,0,pl,_,rfl,ha0,ha,hol,.inl ⟨rfl,haa,e,he,rfl⟩⟩
    ·rw [if_neg h0]
     obtain ⟨g1,g3⟩:opLv op∧(l.getD a (Ty.dflt ty52)).1≠5:=by
      rcases hop2 with h | h
      ·exact absurd h h0
      ·exact h
     have hnext:=qau hl ha (Ty.dflt ty52) g3
     have hw:IntKind.wrap IntKind.i64 ((n:Int)+1)=((n+1:Nat):Int):=qag (by omega)
     have hw2:IntKind.wrap IntKind.i64 ((a:Int)+1)=((a+1:Nat):Int):=qag (by omega)
     rw [hw,hw2]
     have key:∀ k:Nat,(k=n∨k=n+1)→Rf l a0 out0 (ob ((Rec19 d).1 (k:Nat) l ((a+1:Nat):Int) 0 pl (out0++e)) fun y1=>if (y1.2.2.2.2.length+(0+1))*32≤140737488355328 then flR d n p1 p2 p3 p4 p5 m (.l0 y1.1 y1.2.1 y1.2.2.1 y1.2.2.2.1 (y1.2.2.2.2++[(op,[])])) else none):=fun k hk=>by
      obtain ⟨a2,bad2,pl2,out2,f1,f2,f3,f4,f5⟩:=hsub k (a+1) pl (out0++e) hk (by omega) (by omega) (by omega)
      rw [f1,ob_s]
      dsimp only
      simp only [List.length_append] at ho hol f4
      rw [if_pos (by omega)]
      have hgood:(bad2=0∧a0<a2∧∃ e',goodF e'∧out2++[(op,[])]=out0++e')∨(bad2≠0∧0≤pl2∧pl2<l.length):=by
       rcases f5 with ⟨rfl,h3,e2,he2,rfl⟩ | h
       ·exact .inl ⟨rfl,by omega,e++e2++[(op,[])],he.bi he2 (opn_op g1),by simp⟩
       ·exact .inr h
      exact qfa hl hll d n hn0 hn p1 p2 p3 p4 p5 a0 out0 hsub t a2 m bad2 pl2 _ (by omega) (by omega) (by omega) f3 (by simp;omega) (by simp;omega) hgood
     by_cases hn1:(n:Int)=1
     ·rw [if_pos hn1];exact key n (.inl rfl)
     ·rw [if_neg hn1]
      by_cases hn4:(n:Int)=4
      ·rw [if_pos hn4];exact key n (.inl rfl)
      ·rw [if_neg hn4];exact key (n+1) (.inr rfl)
   ·rw [if_neg h1]
    exact ⟨a,bad,pl,out,rfl,ha0,ha,hol,.inr ⟨h1,h2⟩⟩
theorem funary_1011 (hl:toksOK l) (hll:l.length<100000) (d:Nat) (hu:FU l d) (hv:FL l d) (p0:List Tok) (p1 p2 p3:Int) (p4:List Prt) (op:Int) (a m:Nat) (pl:Int) (x8 x7:Int) (out:List Prt) (hd:8*(l.length-a)≤d) (ha:a<l.length) (ho:out.length+(l.length-a)<200000)
  (hop:op=0∨((op=4∨op=8∨op=11∨op=12)∧(l.getD a (Ty.dflt ty52)).1≠5)):Rf l a out (fuR d p0 p1 p2 p3 p4 (m+2) (.l1011 op l a 0 pl (l.getD a (Ty.dflt ty52)).1 (l.getD a (Ty.dflt ty52)).2.1 x7 x8 out)):=by
 show Rf l a out (T48 Ops.std _ _ _ _ _ _ p0 p1 p2 p3 p4 _ some _)
 unfold T48
 have hw1:IntKind.wrap IntKind.i64 ((a:Int)+1)=((a+1:Nat):Int):=qag (by omega)
 simp only [qah,qas,qaj,qal,qan,qaa,qaw,qaf,mt,List.length_cons,List.length_nil,hw1]
 by_cases h0:op=0
 ·rw [if_neg (fun h=>h h0)]
  have hnx:=qau hl ha (Ty.dflt ty52)
  have hrest:Rf l a out (ob (M82 [40] l a 0 pl out) fun y0=>cond y0.1 (fuR d p0 p1 p2 p3 p4 (m+1) (.l1024 y0.2.1 (IntKind.wrap IntKind.i64 (y0.2.2.1+1)) y0.2.2.2.1 y0.2.2.2.2.1 y0.2.2.2.2.2))
    (ob (M82 [91] y0.2.1 y0.2.2.1 y0.2.2.2.1 y0.2.2.2.2.1 y0.2.2.2.2.2) fun y1=>cond y1.1 (fuR d p0 p1 p2 p3 p4 (m+1) (.l1028 y1.2.2.1 y1.2.1 y1.2.2.1 y1.2.2.2.1 y1.2.2.2.2.1 y1.2.2.2.2.2))
      (ob (M20 2 y1.2.2.1 y1.2.1 y1.2.2.1 y1.2.2.2.1 y1.2.2.2.2.1 y1.2.2.2.2.2) fun y2=>some (y2.1,y2.2.1,y2.2.2.1,y2.2.2.2.1,y2.2.2.2.2)))):=by
   obtain ⟨b1,g1,g2⟩:=qco [40] l a ha 0 pl out
   rw [g1,ob_s]
   dsimp only
   cases b1 with
   | true=>
     have hnext:=hnx (by rw [g2 rfl];decide)
     simp only [cond_true,hw1]
     show Rf l a out (T48 Ops.std _ _ _ _ _ _ p0 p1 p2 p3 p4 _ some _)
     unfold T48
     dsimp only
     obtain ⟨a2,bad2,pl2,out2,f1,f2,f3,f4,f5⟩:=hv 1 (a+1) pl out (by omega) (by omega) (by omega) hnext (by omega)
     have f1':(Rec19 d).1 1 l ((a+1:Nat):Int) 0 pl out=some (l,(a2:Int),bad2,pl2,out2):=f1
     rw [f1',ob_s]
     dsimp only
     rcases f5 with ⟨rfl,h3,e,he,rfl⟩ | ⟨h3,h4⟩
     ·rcases close_ok hl hll [41] a2 f3 pl2 (out++e) with ⟨q1,q2⟩ | q1
      ·have q1':M83 (Array.toList (ByteArray.data { data:=List.toArray [41] })) l a2 0 pl2 (out++e)=_:=q1
       rw [q1',ob_s]
       exact ⟨a2+1,0,pl2,_,rfl,by omega,q2,by first | omega | (dsimp only;omega),.inl ⟨rfl,by omega,e,he,rfl⟩⟩
      ·have q1':M83 (Array.toList (ByteArray.data { data:=List.toArray [41] })) l a2 0 pl2 (out++e)=_:=q1
       rw [q1',ob_s]
       exact ⟨a2,2,a2,_,rfl,by omega,f3,by first | omega | (dsimp only;omega),.inr ⟨by decide,by first | omega | (dsimp only;omega),by first | omega | (dsimp only;omega)⟩⟩
     ·rw [close_bad _ _ _ _ _ _ h3,ob_s]
      exact ⟨a2,bad2,pl2,_,rfl,by omega,f3,by first | omega | (dsimp only;omega),.inr ⟨h3,h4⟩⟩
   | false=>
     simp only [cond_false]
     obtain ⟨b2,g3,g4⟩:=qco [91] l a ha 0 pl out
     rw [g3,ob_s]
     dsimp only
     cases b2 with
     | true=>
       have hnext:=hnx (by rw [g4 rfl];decide)
       simp only [cond_true]
       show Rf l a out (T48 Ops.std _ _ _ _ _ _ p0 p1 p2 p3 p4 _ some _)
       unfold T48
       simp only [qal,qan,qaa,mt,List.length_cons,List.length_nil,hw1]
       obtain ⟨k,e,x,t1,t2,t3⟩:=take_ok hl hll (a+1) hnext
       rw [t1,ob_s]
       dsimp only
       rcases t3 with ⟨rfl,t3,t4,t5⟩ | ⟨rfl,rfl⟩ | ⟨rfl,rfl,rfl⟩
       ·rw [if_neg (by decide),if_neg (by decide),if_pos (by omega)]
        have hgood:goodF [((3,x):Prt)]:=goodF.nul rfl (fun _=>t4) (fun h=>absurd rfl h) (qcb t4)
        rcases close_ok hl hll [93] k t2 pl (out++[(3,x)]) with ⟨q1,q2⟩ | q1
        ·have q1':M83 (Array.toList (ByteArray.data { data:=List.toArray [93] })) l k 0 pl (out++[(3,x)])=_:=q1
         rw [q1',ob_s]
         exact ⟨k+1,0,pl,_,rfl,by omega,q2,by simp;omega,.inl ⟨rfl,by omega,_,hgood,rfl⟩⟩
        ·have q1':M83 (Array.toList (ByteArray.data { data:=List.toArray [93] })) l k 0 pl (out++[(3,x)])=_:=q1
         rw [q1',ob_s]
         exact ⟨k,2,k,_,rfl,by omega,t2,by simp;omega,.inr ⟨by decide,by first | omega | (dsimp only;omega),by first | omega | (dsimp only;omega)⟩⟩
       ·rw [if_neg (by decide),if_pos rfl,qc4,ob_s]
        exact ⟨a,2,k,_,rfl,by omega,ha,by first | omega | (dsimp only;omega),.inr ⟨by decide,by first | omega | (dsimp only;omega),by first | omega | (dsimp only;omega)⟩⟩
       ·rw [if_pos rfl,qc4,ob_s]
        exact ⟨a,13,a,_,rfl,by omega,ha,by first | omega | (dsimp only;omega),.inr ⟨by decide,by first | omega | (dsimp only;omega),by first | omega | (dsimp only;omega)⟩⟩
     | false=>
       simp only [cond_false]
       rw [qc4,ob_s]
       exact ⟨a,2,a,_,rfl,by omega,ha,by first | omega | (dsimp only;omega),.inr ⟨by decide,by first | omega | (dsimp only;omega),by first | omega | (dsimp only;omega)⟩⟩
  have h21:(l.getD a (Ty.dflt ty52)).1=2→Rf l a out (fuR d p0 p1 p2 p3 p4 (m+1) (.l1021 l ((a+1:Nat):Int) 0 pl out)):=fun hk=>by
   show Rf l a out (T48 Ops.std _ _ _ _ _ _ p0 p1 p2 p3 p4 _ some _)
   unfold T48
   simp only [qan,qaa,mt,List.length_cons,List.length_nil]
   rw [if_pos (by omega)]
   exact ⟨a+1,0,pl,_,rfl,by omega,hnx (by rw [hk];decide),by simp,.inl ⟨rfl,by omega,[(2,[])],goodF.nul rfl (fun h=>(by cases h)) (fun _=>rfl) (shortP.nil 2),rfl⟩⟩
  by_cases hk2:(l.getD a (Ty.dflt ty52)).1=2
  ·simp only [if_pos hk2]
   cases hb1:((l.getD a (Ty.dflt ty52)).2.1 == Array.toList (ByteArray.data { data:=List.toArray ([116,114,117,101]:List UInt8) })) with
   | true=>
     simp only [cond_true]
     rw [if_pos (by omega)]
     exact ⟨a+1,0,pl,_,rfl,by omega,hnx (by rw [hk2];decide),by simp,.inl ⟨rfl,by omega,[(1,[])],goodF.nul rfl (fun h=>(by cases h)) (fun _=>rfl) (shortP.nil 1),rfl⟩⟩
   | false=>
     simp only [cond_false]
     cases hb2:((l.getD a (Ty.dflt ty52)).2.1 == Array.toList (ByteArray.data { data:=List.toArray ([102,97,108,115,101]:List UInt8) })) with
     | true=>exact h21 hk2
     | false=>exact hrest
  ·simp only [if_neg hk2]
   exact hrest
 ·obtain ⟨hop1,hk4⟩:(op=4∨op=8∨op=11∨op=12)∧(l.getD a (Ty.dflt ty52)).1≠5:=by
   rcases hop with h | h
   ·exact absurd h h0
   ·exact h
  have hnext:=qau hl ha (Ty.dflt ty52) hk4
  rw [if_pos h0]
  obtain ⟨a2,bad2,pl2,out2,f1,f2,f3,f4,f5⟩:=hu (a+1) pl out (by omega) hnext (by omega)
  rw [f1,ob_s]
  dsimp only
  rw [if_pos (by omega)]
  refine ⟨a2,bad2,pl2,_,rfl,by omega,f3,by simp;omega,?_⟩
  rcases f5 with ⟨rfl,h3,e,he,rfl⟩ | h
  ·refine .inl ⟨rfl,by omega,e++[(op,[])],he.un ?_,by simp⟩
   rcases hop1 with h | h | h | h<;>subst h<;>rfl
  ·exact .inr h
theorem qf0 (hl:toksOK l) (hll:l.length<100000):∀ d,FL l d∧FU l d
 | 0=>⟨fun n a pl out _ _ h _ _=>(by omega),fun a pl out h _ _=>(by omega)⟩
 | d+1=>by
   obtain ⟨hv,hu⟩:=qf0 hl hll d
   constructor
   ·intro n a pl out h1 h6 hd ha ho
    show Rf l a out (T19 Ops.std (Rec19 d).2 (Rec19 d).1 M49 n l a 0 pl out (flR d n l a 0 pl out 1000000) some none)
    unfold T19
    simp only [qah,qaa]
    by_cases h5:n=5
    ·rw [if_pos (by omega)]
     obtain ⟨a2,bad2,pl2,out2,f1,f2⟩:=hu a pl out (by omega) ha ho
     rw [f1,ob_s]
     exact ⟨a2,bad2,pl2,out2,rfl,f2⟩
    ·rw [if_neg (by omega),show IntKind.wrap IntKind.i64 ((n:Int)+1)=((n+1:Nat):Int) from qag (by omega)]
     obtain ⟨a2,bad2,pl2,out2,f1,f2,f3,f4,f5⟩:=hv (n+1) a pl out (by omega) (by omega) (by omega) ha ho
     rw [f1,ob_s]
     dsimp only
     exact qfa hl hll d n h1 (by omega) l a 0 pl out a out (fun k a' pl' out' hk h1' h2 h3=>hv k a' pl' out' (by omega) (by omega) (by omega) h2 h3) (l.length-a2) a2 1000000 bad2 pl2 out2 (by omega) (by omega) f2 f3 (by omega) f4 f5
   ·intro a pl out hd ha ho
    show Rf l a out (T48 Ops.std M82 (Rec19 d).2 (Rec19 d).1 M83 M84 M20 l a 0 pl out (fuR d l a 0 pl out 1000000) some none)
    unfold T48
    simp only [qaj,qal,qaw,qaa,qaf]
    rw [if_neg (by simp),if_pos (by omega)]
    obtain ⟨b1,g1,g2⟩:=qco [33] l a ha 0 pl out
    have g1':M82 (Array.toList (ByteArray.data { data:=List.toArray (33::mt UInt8) })) l a 0 pl out=_:=g1
    rw [g1',ob_s]
    dsimp only
    have step:=fun (op:Int) (x7 x8:Int) (h:op=0∨((op=4∨op=8∨op=11∨op=12)∧(l.getD a (Ty.dflt ty52)).1≠5))=>funary_1011 hl hll d hu hv l a 0 pl out op a 999998 pl x8 x7 out (by omega) ha ho h
    cases b1 with
    | true=>exact step 4 _ _ (.inr ⟨.inl rfl,by rw [g2 rfl];decide⟩)
    | false=>
      simp only [cond_false]
      by_cases hk3:(l.getD a (Ty.dflt ty52)).1=3
      ·have h5:(l.getD a (Ty.dflt ty52)).1≠5:=by rw [hk3];decide
       simp only [if_pos hk3]
       cases (l.getD a (Ty.dflt ty52)).2.1 == Array.toList (ByteArray.data { data:=List.toArray (88::mt UInt8) }) with
       | true=>exact step 8 _ _ (.inr ⟨.inr (.inl rfl),h5⟩)
       | false=>
         simp only [cond_false]
         cases (l.getD a (Ty.dflt ty52)).2.1 == Array.toList (ByteArray.data { data:=List.toArray (70::mt UInt8) }) with
         | true=>exact step 11 _ _ (.inr ⟨.inr (.inr (.inl rfl)),h5⟩)
         | false=>
           simp only [cond_false]
           cases (l.getD a (Ty.dflt ty52)).2.1 == Array.toList (ByteArray.data { data:=List.toArray (71::mt UInt8) }) with
           | true=>exact step 12 _ _ (.inr ⟨.inr (.inr (.inr rfl)),h5⟩)
           | false=>exact step 0 _ _ (.inl rfl)
      ·simp only [if_neg hk3]
       exact step 0 _ _ (.inl rfl)
end
theorem parse_ok (s:List UInt8):∃ (e x:Int) (f:List Prt),M5 s=some (e,x,f)∧(f=[]∨(e=0∧f.length≤24∧goodF f)):=by
 show ∃ (e x:Int) (f:List Prt),T5 Ops.std M18 M19 M20 s some=_∧_
 unfold T5
 rw [lex_ref,ob_s]
 simp only [qal,qah,qaj,qaw,qaa,mt]
 generalize hr:lexS s=r
 obtain ⟨e,x,l⟩:=r
 dsimp only
 by_cases he:e=0
 ·subst he
  obtain ⟨hl,hlen,hs⟩:=lexS_ok hr
  have hp:=toks_len hl
  rw [if_neg (by simp)]
  obtain ⟨a2,bad,pl,out,f1,f2,f3,f4,f5⟩:=(qf0 hl (by omega) 1000000).1 1 0 0 [] (by omega) (by omega) (by omega) hp (by simp;omega)
  have f1':M19 1 l 0 0 0 []=some (l,(a2:Int),bad,pl,out):=f1
  rw [f1',ob_s]
  dsimp only
  rcases f5 with ⟨rfl,h1,ex,hex,hx⟩ | ⟨h1,h2,h3⟩
  ·have hx:out=ex:=by simpa using hx
   subst hx
   rw [if_pos rfl,if_pos (by omega)]
   by_cases h5:(l.getD (Int.toNat (a2:Int)) (Ty.dflt ty52)).1=5
   ·rw [if_neg (fun h=>h h5),if_neg (by simp)]
    by_cases h24:(24:Int)<(out.length:Nat)
    ·rw [if_pos h24];exact ⟨_,_,_,rfl,.inl rfl⟩
    ·rw [if_neg h24];exact ⟨_,_,_,rfl,.inr ⟨rfl,by omega,hex⟩⟩
   ·rw [if_pos h5,qc4,ob_s]
    dsimp only
    rw [if_pos (by decide),if_pos (by omega)]
    exact ⟨_,_,_,rfl,.inl rfl⟩
  ·rw [if_neg h1,if_pos h1,if_pos (by omega)]
   exact ⟨_,_,_,rfl,.inl rfl⟩
 ·rw [if_pos he];exact ⟨_,_,_,rfl,.inl rfl⟩
theorem knownL13:M4=some true:=by kernel_rfl
theorem qfb {a:List Prt} (h:∀ p∈a,shortP p) (k:Nat) {x:Prt} (hx:shortP x):∀ p∈a.set k x,shortP p:=fun p hp=>by
 rcases List.mem_or_eq_of_mem_set hp with hp | rfl
 ·exact h p hp
 ·exact hx
theorem turned_ok13 {a:List Prt} (h60:a.length≤60) (h:∀ p∈a,shortP p) (how at_ by_:Int):∃ b,M7 a how at_ by_=some b∧b.length≤61∧∀ p∈b,shortP p:=by
 show ∃ b,T7 Ops.std M22 a how at_ by_ some=some b∧_
 unfold T7
 simp only [mt,List.nil_append]
 by_cases h0:a.length=0
 ·simp only [qan,qal,qaa,List.length_nil]
  rw [if_pos (by omega),if_pos (by omega)]
  exact ⟨_,rfl,by omega,h⟩
 ·obtain ⟨k,hk,hpk⟩:=pickN at_ a.length (by omega) (by omega)
  obtain ⟨w,hw,hpw⟩:=pickN how 8 (by omega) (by omega)
  obtain ⟨b1,hb1,hp1⟩:=pickN by_ 14 (by omega) (by omega)
  have hpw':M22 how 8=some (w:Int):=hpw
  have hp1':M22 by_ 14=some (b1:Int):=hp1
  have hkw:IntKind.wrap IntKind.i64 ((k:Int)+1)=((k+1:Nat):Int):=qag (by omega)
  simp only [hpk,hpw',hp1',ob_s]
  simp only [hkw]
  simp only [qan,qal,qaj,qaa,List.length_nil,qaf]
  rw [if_pos (by omega),if_neg (by omega)]
  obtain ⟨x,hx⟩:∃ x,a.getD k (Ty.dflt ty61)=x:=⟨_,rfl⟩
  have hxm:shortP x:=by
   refine h x ?_
   rw [←hx,List.getD_eq_getElem?_getD,List.getElem?_eq_getElem hk]
   exact List.getElem_mem _
  simp only [hx]
  have i1:(0:Int)≤(k:Int)∧(k:Int)<(a.length:Int):=by omega
  have i2:(0:Int)≤(k:Int)∧(k:Int)<((a.length+1:Nat):Int):=by omega
  have i3:(0:Int)≤((k+1:Nat):Int)∧((k+1:Nat):Int)<((a.length+1:Nat):Int):=by omega
  simp only [if_pos i1,if_pos i2,if_pos i3]
  by_cases c0:(w:Int)=0
  ·rw [if_pos c0];exact ⟨_,rfl,by simp;omega,qfb h k hxm⟩
  rw [if_neg c0]
  by_cases c1:(w:Int)=1
  ·rw [if_pos c1]
   refine ⟨_,rfl,by simp;omega,qfb h k ⟨by simp,fun t ht=>?_⟩⟩
   simp only [List.mem_singleton] at ht
   subst ht
   exact ⟨by simp,by simp⟩
  rw [if_neg c1]
  by_cases c2:(w:Int)=2
  ·rw [if_pos c2]
   exact ⟨_,rfl,by simp;omega,qfb h k (shortP.nil _)⟩
  rw [if_neg c2]
  by_cases c3:(w:Int)=3
  ·rw [if_pos c3,if_pos (by simp only [List.length_take,List.length_drop];omega)]
   refine ⟨_,rfl,by simp only [List.length_append,List.length_take,List.length_drop];omega,fun t ht=>?_⟩
   rcases List.mem_append.1 ht with ht | ht
   ·exact h t (List.mem_of_mem_take ht)
   ·exact h t (List.mem_of_mem_drop (List.mem_of_mem_take ht))
  rw [if_neg c3]
  by_cases c4:(w:Int)=4
  ·rw [if_pos c4,if_pos (by simp only [List.length_cons,List.length_nil];omega)]
   refine ⟨_,rfl,by simp only [List.length_append,List.length_cons,List.length_nil];omega,fun t ht=>?_⟩
   rcases List.mem_append.1 ht with ht | ht
   ·exact h t ht
   ·simp only [List.mem_singleton] at ht
    subst ht
    exact hxm
  rw [if_neg c4]
  exact ⟨_,rfl,by omega,h⟩
section
variable {vs:List Vrb} {ps:List Pcs} (ts:List Trn)
noncomputable def kA13 (vs:List Vrb) (ps:List Pcs) (ts:List Trn) (f:List Prt):Bool:=f.all fun p=>if p.1=3 then knB vs ps ts p.2 else true
theorem knR_loop (hg:smallG vs ps) (f:List Prt) (hf:f.length≤100) (hs:∀ p∈f,shortP p):∀ (t i n:Nat),i+t=f.length→t<n→R12 M32 M10 vs ps ts f n (.l0 i)=some (kA13 vs ps ts (f.drop i) && rightF rightE f)
 | t,i,0,hi,hn=>by omega
 | 0,i,n+1,hi,hn=>by
   show T12 Ops.std _ _ vs ps ts f _ some _=_
   unfold T12
   simp only [qah,qaa]
   rw [if_neg (by omega),List.drop_eq_nil_of_le (by omega),qci hf hs,ob_s]
   rfl
 | t+1,i,n+1,hi,hn=>by
   have hlt:i<f.length:=by omega
   have ih:=knR_loop hg f hf hs t (i+1) n (by omega) (by omega)
   have hm:f.getD i (Ty.dflt ty61)∈f:=by
    rw [List.getD_eq_getElem?_getD,List.getElem?_eq_getElem hlt]
    exact List.getElem_mem _
   show T12 Ops.std _ _ vs ps ts f _ some _=_
   unfold T12
   rw [qa8 (Ty.dflt ty61) hlt]
   simp only [qah,qal,qaj,qaa,qaf,show IntKind.wrap IntKind.i64 ((i:Int)+1)=((i+1:Nat):Int) from qag (by omega)]
   generalize f.getD i (Ty.dflt ty61)=p at hm ⊢
   unfold kA13 at ih ⊢
   rw [List.all_cons,if_pos (by omega),if_pos (by omega)]
   by_cases h3:p.1=3
   ·obtain ⟨b,q1,q2⟩:=qej ts hg p.2 (hs p hm)
    have hb:knB vs ps ts p.2=b:=by unfold knB;rw [q1];rfl
    rw [if_pos h3,if_pos h3,if_pos (by omega),q1,ob_s,hb]
    cases b with
    | false=>rfl
    | true=>simp only [Bool.not_true,cond_false,Bool.true_and];exact ih
   ·rw [if_neg h3,if_neg h3,Bool.true_and]
    exact ih
theorem ixQ_loop (hg:smallG vs ps) (f:List Prt) (hf:f.length≤100) (hs:∀ p∈f,shortP p):∀ (t i n:Nat),i+t=f.length→t<n→∃ r:Int,R63 M30 f vs ps ts n (.l0 (f.length:Nat) i vs ps ts)=some (r,vs,ps,ts)∧(kA13 vs ps ts (f.drop i)=decide (r<0))
 | t,i,0,hi,hn=>by omega
 | 0,i,n+1,hi,hn=>by
   show ∃ r:Int,T63 Ops.std _ f vs ps ts _ some _=_∧_
   unfold T63
   simp only [qah,qaa]
   rw [if_neg (by omega),List.drop_eq_nil_of_le (by omega)]
   exact ⟨-1,rfl,rfl⟩
 | t+1,i,n+1,hi,hn=>by
   have ih:=ixQ_loop hg f hf hs t (i+1) n (by omega) (by omega)
   obtain ⟨p,hp⟩:∃ p,f.getD i (Ty.dflt ty61)=p:=⟨_,rfl⟩
   have hm:p∈f:=by
    rw [←hp,List.getD_eq_getElem?_getD,List.getElem?_eq_getElem (by omega)]
    exact List.getElem_mem _
   have hc:M30 p.1 p.2 vs ps ts=some (!(if p.1=3 then knB vs ps ts p.2 else true),vs,ps,ts):=by
    show T30 Ops.std M31 p.1 p.2 vs ps ts some=_
    unfold T30
    simp only [qal,qaa]
    by_cases h3:p.1=3
    ·rw [if_pos h3,if_pos h3,knownP_eq ts hg p.2 (hs p hm),ob_s]
    ·rw [if_neg h3,if_neg h3];rfl
   show ∃ r:Int,T63 Ops.std _ f vs ps ts _ some _=_∧_
   unfold T63
   simp only [qah,qaj,qaa,qaf,hp,show IntKind.wrap IntKind.i64 ((i:Int)+1)=((i+1:Nat):Int) from qag (by omega)]
   rw [if_pos (by omega),if_pos (by omega),hc,ob_s,qa8 (Ty.dflt ty61) (by omega),hp]
   dsimp only
   have hk:kA13 vs ps ts (p::f.drop (i+1))=((if p.1=3 then knB vs ps ts p.2 else true) && kA13 vs ps ts (f.drop (i+1))):=rfl
   rw [hk]
   generalize (if p.1=3 then knB vs ps ts p.2 else true)=b
   cases b with
   | true=>simpa using ih
   | false=>exact ⟨(i:Int),rfl,by simp⟩
theorem fknown_both (hg:smallG vs ps) (f:List Prt) (hf:f.length≤100) (hs:∀ p∈f,shortP p):∃ b,M11 vs ps ts f=some b∧M12 vs ps ts f=some b:=by
 refine ⟨kA13 vs ps ts f && rightF rightE f,?_,?_⟩
 ·obtain ⟨r,r1,r2⟩:=ixQ_loop ts hg f hf hs f.length 0 1000000 (by omega) (by omega)
  have e1:M63 f vs ps ts=some (r,vs,ps,ts):=by
   show T63 Ops.std M30 f vs ps ts (R63 M30 f vs ps ts 1000000) some none=_
   unfold T63
   exact r1
  have e2:M29 f vs ps ts=some (decide (0≤r),vs,ps,ts):=by
   show T29 Ops.std M63 M30 f vs ps ts some=_
   unfold T29
   rw [e1,ob_s]
   simp only [qas]
  show T11 Ops.std M30 M29 M9 vs ps ts f some=_
  unfold T11
  rw [e2,ob_s,qds hf hs,ob_s]
  rw [List.drop_zero] at r2
  rw [r2]
  by_cases h:r<0
  ·have h':¬ (0≤r):=by omega
   cases rightF rightE f<;>simp [h,h']
  ·have h':0≤r:=by omega
   cases rightF rightE f<;>simp [h,h']
 ·show T12 Ops.std M32 M10 vs ps ts f (R12 M32 M10 vs ps ts f 1000000) some none=_
  unfold T12
  have:=knR_loop ts hg f hf hs f.length 0 1000000 (by omega) (by omega)
  rw [List.drop_zero] at this
  exact this
end
theorem tells_eq {o o':Option Bool} {p:Prop} (h:Tells o p) (h':Tells o' p):∃ b,o=some b∧o'=some b:=by
 obtain ⟨b,h1,h2⟩:=h
 obtain ⟨c,h3,h4⟩:=h'
 have:b=c:=by rw [Bool.eq_iff_iff,h2,h4]
 subst this
 exact ⟨b,h1,h3⟩
theorem plainFormulaRight (p0:List Int) (p1 p2 p3 p4 p5:Int) (p6:List (List Int)) (w0:Ty.wf ty22 p0) (w1:(Lit.int .i64 p1).wf=true) (w2:(Lit.int .i64 p2).wf=true) (w3:(Lit.int .i64 p3).wf=true) (w4:Ty.wf ty3 p4) (w5:Ty.wf ty3 p5) (w6:Ty.wf ty23 p6):M3 p0 p1 p2 p3 p4 p5 p6=some true:=by
 have hM:M3 p0 p1 p2 p3 p4 p5 p6=T3 Ops.std M4 M6 M5 M7 M8 M9 M10 M11 M12 M13 M14 M15 M16 p0 p1 p2 p3 p4 p5 p6 some:=rfl
 obtain ⟨s,hs,_⟩:=formula_ok p0
 obtain ⟨e,x,f,hp,hf⟩:=parse_ok s
 have hsh:f.length≤60∧∀ p∈f,shortP p:=by
  rcases hf with rfl | ⟨_,h1,h2⟩
  ·exact ⟨by simp,fun p hp=>by cases hp⟩
  ·exact ⟨by omega,h2.2⟩
 obtain ⟨b,hb,hbl,hbs⟩:=turned_ok13 hsh.1 hsh.2 p1 p2 p3
 obtain ⟨vs,ps,ts,hm,hmo⟩:=Model_ok2 p4 p5 p6
 obtain ⟨k,k1,k2⟩:=fknown_both ts hmo.1.g b (by omega) hbs
 obtain ⟨q,q1,q2⟩:=fprint_both (by omega) hbs
 have hsm:smallF f:=⟨by have:=hsh.1;omega,fun p hp=>by have:=(hsh.2 p hp).1;omega⟩
 obtain ⟨r,r1,r2⟩:=tells_eq (sameF_prog (g:=b) hsm) (sameF_ref (g:=b) hsm)
 rw [hM]
 unfold T3
 simp only [knownL13,ob_s,Bool.not_true,cond_false,cond_true,hs,hp,hb,hm,qds (by omega) hbs,qci (by omega) hbs,k1,k2,q1,q2,r1,r2,beq_self_eq_true]
end Go.Proofs.YtkmpkebaloejhaaGreatDoor.Av
