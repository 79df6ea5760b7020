/- The plain law of ExprRight: what its twin computes answers true. Conditions: none. -/
import Derived.Test.YtkmpkebaloejhaaDoorPExprRighta
set_option linter.unusedSimpArgs false
set_option linter.unusedVariables false
set_option maxRecDepth 100000
namespace Go.Proofs.YtkmpkebaloejhaaDoor.Av
open Go
section
variable {l:List Tok}
def takeR (a:Nat):PR→Int×Int×List Trm
 | .ok b e=>if 30<e.length then ((a:Int),13,[]) else ((b:Int),0,e)
 | .bad k=>((k:Int),2,[])
def parseR (l:List Tok) (y:Int×Int×List Trm):Int×Int×List Trm:=
 if y.2.1=0 then (if (tkD l y.1.toNat).1=5 then (0,0,y.2.2) else (2,(tkD l y.1.toNat).2.2.2,[])) else (y.2.1,(tkD l y.1.toNat).2.2.2,[])
theorem takeR_in (hl:toksOK l) {a:Nat} (ha:a<l.length) {r:PR} (h:PE l (.lv 1 a) r):∃ (k:Nat) (e:Int) (x:List Trm),takeR a r=((k:Int),e,x)∧k<l.length:=by
 have hbd:=h.bd hl (Nat.le_refl 1) ha
 cases r with
 | ok b e=>
   by_cases h30:30<e.length
   ·exact ⟨a,13,[],if_pos h30,ha⟩
   ·exact ⟨b,0,e,if_neg h30,hbd.2.1⟩
 | bad k=>exact ⟨k,2,[],rfl,hbd.2⟩
end
def ParseIs (s:List UInt8) (y:Int×Int×List Trm):Prop:=
 (∃ (e x:Int) (l:List Tok),lexS s=(e,x,l)∧e≠0∧y=(e,x,[]))∨∃ (x:Int) (l:List Tok) (r:PR),lexS s=(0,x,l)∧PE l (.lv 1 0) r∧y=parseR l (takeR 0 r)
def nmJ:Nat→List UInt8
 | 6=>[42] | 7=>[43] | 8=>[45] | 9=>[60] | 10=>[60,61] | 11=>[62] | 12=>[62,61] | 13=>[61,61] | 14=>[33,61] | 15=>[38,38] | 16=>[124,124] | _=>[]
def stJ:Nat→Nat
 | 6=>5 | 7=>4 | 8=>4 | 9=>3 | 10=>3 | 11=>3 | 12=>3 | 13=>3 | 14=>3 | 15=>2 | 16=>1 | _=>0
def chJ (w:List UInt8) (lv:Int):Nat→Nat→Option Int
 | 0,_=>some 0
 | t+1,j=>if nmJ j=w∧(stJ j:Int)=lv then some (j:Int) else chJ w lv t (j+1)
theorem strength_ref (j:Nat) (h6:6≤j) (h16:j≤16):M54 (j:Int)=some (stJ j:Int):=by
 have hj:j=6∨j=7∨j=8∨j=9∨j=10∨j=11∨j=12∨j=13∨j=14∨j=15∨j=16:=by omega
 rcases hj with rfl | rfl | rfl | rfl | rfl | rfl | rfl | rfl | rfl | rfl | rfl<;>rfl
theorem names_ref (j:Nat) (h6:6≤j) (h16:j≤16):List.getD (mt UInt8::mt UInt8::mt UInt8::mt UInt8::mt UInt8::mt UInt8::([42]:List UInt8)::([43]:List UInt8)::([45]:List UInt8)::([60]:List UInt8)::([60,61]:List UInt8)::([62]:List UInt8)::([62,61]:List UInt8)::([61,61]:List UInt8)::([33,61]:List UInt8)::([38,38]:List UInt8)::([124,124]:List UInt8)::mt (List UInt8)) j (mt UInt8)=nmJ j:=by
 have hj:j=6∨j=7∨j=8∨j=9∨j=10∨j=11∨j=12∨j=13∨j=14∨j=15∨j=16:=by omega
 rcases hj with rfl | rfl | rfl | rfl | rfl | rfl | rfl | rfl | rfl | rfl | rfl<;>rfl
theorem qdk (k:Int) (w:List UInt8) (n x lv:Int):∀ (t j m:Nat),j+t=17→t<m→6≤j→
  R100 M54 k w n x lv m (.l0 j)=chJ w lv t j
 | t,j,0,hj,hm,h6=>by omega
 | 0,j,m+1,hj,hm,h6=>by
   show T100 Ops.std _ k w n x lv _ some _=_
   unfold T100
   simp only [qaz,qaa]
   rw [if_neg (by omega)]
   rfl
 | t+1,j,m+1,hj,hm,h6=>by
   have ih:=qdk k w n x lv t (j+1) m (by omega) (by omega) (by omega)
   show T100 Ops.std _ k w n x lv _ some _=_
   unfold T100
   have hw:IntKind.wrap IntKind.i64 ((j:Int)+1)=((j+1:Nat):Int):=qag (by omega)
   simp only [qaz,qak,qao,qaa,hw,qaf,names_ref j h6 (by omega),strength_ref j h6 (by omega),ob_s,chJ]
   rw [if_pos (by omega),if_pos (by omega)]
   by_cases hn:nmJ j=w
   ·have:(nmJ j == w)=true:=by rw [hn];simp
    rw [this]
    simp only [cond_true]
    by_cases hl:(stJ j:Int)=lv
    ·rw [if_pos hl,if_pos ⟨hn,hl⟩]
    ·rw [if_neg hl,if_neg (show ¬ (nmJ j=w∧(stJ j:Int)=lv) from fun h=>hl h.2)]
     exact ih
   ·have:(nmJ j == w)=false:=by simpa using hn
    rw [this,if_neg (show ¬ (nmJ j=w∧(stJ j:Int)=lv) from fun h=>hn h.1)]
    simp only [cond_false]
    exact ih
theorem binary_ref (k:Int) (w:List UInt8) (n x:Int) (lv:Nat) (hlv:1≤lv):M100 k w n x (lv:Int)=some (if k=4 then (if (sgW w).2=lv then (sgW w).1 else 0) else 0):=by
 show T100 Ops.std M54 k w n x lv (R100 M54 k w n x lv 1000000) some none=_
 unfold T100
 simp only [qao,qbt,qaa]
 by_cases hk:k=4
 ·rw [if_neg (fun h=>h hk),if_pos hk]
  refine (qdk k w n x lv 11 6 1000000 (by omega) (by omega) (by omega)).trans ?_
  simp only [chJ,nmJ,stJ,Nat.reduceAdd]
  unfold sgW
  by_cases h1:w=[42]
  ·subst h1;by_cases h:5=lv
   ·subst h;rfl
   ·rw [if_neg (by simp;omega)];simp [h]
  rw [if_neg (fun h=>h1 h.1.symm),if_neg h1]
  by_cases h1:w=[43]
  ·subst h1;by_cases h:4=lv
   ·subst h;rfl
   ·rw [if_neg (by simp;omega)];simp [h]
  rw [if_neg (fun h=>h1 h.1.symm),if_neg h1]
  by_cases h1:w=[45]
  ·subst h1;by_cases h:4=lv
   ·subst h;rfl
   ·rw [if_neg (by simp;omega)];simp [h]
  rw [if_neg (fun h=>h1 h.1.symm),if_neg h1]
  by_cases h1:w=[60]
  ·subst h1;by_cases h:3=lv
   ·subst h;rfl
   ·rw [if_neg (by simp;omega)];simp [h]
  rw [if_neg (fun h=>h1 h.1.symm),if_neg h1]
  by_cases h1:w=[60,61]
  ·subst h1;by_cases h:3=lv
   ·subst h;rfl
   ·rw [if_neg (by simp;omega)];simp [h]
  rw [if_neg (fun h=>h1 h.1.symm),if_neg h1]
  by_cases h1:w=[62]
  ·subst h1;by_cases h:3=lv
   ·subst h;rfl
   ·rw [if_neg (by simp;omega)];simp [h]
  rw [if_neg (fun h=>h1 h.1.symm),if_neg h1]
  by_cases h1:w=[62,61]
  ·subst h1;by_cases h:3=lv
   ·subst h;rfl
   ·rw [if_neg (by simp;omega)];simp [h]
  rw [if_neg (fun h=>h1 h.1.symm),if_neg h1]
  by_cases h1:w=[61,61]
  ·subst h1;by_cases h:3=lv
   ·subst h;rfl
   ·rw [if_neg (by simp;omega)];simp [h]
  rw [if_neg (fun h=>h1 h.1.symm),if_neg h1]
  by_cases h1:w=[33,61]
  ·subst h1;by_cases h:3=lv
   ·subst h;rfl
   ·rw [if_neg (by simp;omega)];simp [h]
  rw [if_neg (fun h=>h1 h.1.symm),if_neg h1]
  by_cases h1:w=[38,38]
  ·subst h1;by_cases h:2=lv
   ·subst h;rfl
   ·rw [if_neg (by simp;omega)];simp [h]
  rw [if_neg (fun h=>h1 h.1.symm),if_neg h1]
  by_cases h1:w=[124,124]
  ·subst h1;by_cases h:1=lv
   ·subst h;rfl
   ·rw [if_neg (by simp;omega)];simp [h]
  rw [if_neg (fun h=>h1 h.1.symm),if_neg h1]
  rw [if_neg (by show ¬ 0=lv;omega)]
 ·rw [if_pos hk,if_neg hk]
theorem qei (w:List UInt8) {l:List Tok} {a:Nat} (ha:a<l.length) (bad:Int) (out:List Trm):M124 w l a bad out=some (isS l a w,l,(a:Int),bad,out):=by
 show T124 Ops.std w l a bad out some=_
 unfold T124 isS
 simp only [qak,qao,qaa,qaf]
 rw [if_pos (by omega)]
 by_cases h:(l.getD a (Ty.dflt ty85)).1=4
 ·rw [if_pos h,if_pos (by omega),decide_eq_true h,Bool.true_and]
 ·rw [if_neg h,decide_eq_false h,Bool.false_and]
theorem qej (l:List Tok) (a:Nat) (out:List Trm):M125 l a (-1) out=some (l,(a:Int),(a:Int),out):=by
 show T125 Ops.std l a (-1) out some=_
 unfold T125
 simp only [qai,qaa]
 rw [if_pos (by omega)]
def RsR (l:List Tok) (a:Nat) (out:List Trm) (r:PR) (o:Option (List Tok×Int×Int×List Trm)):Prop:=match r with
 | .ok b e=>o=some (l,(b:Int),-1,out++e)
 | .bad k=>∃ (c:Nat) (out':List Trm),o=some (l,(c:Int),(k:Int),out')∧out'.length≤out.length+(c-a)∧a≤c∧c<l.length
noncomputable abbrev leR (d:Nat):=R64 (Rec64 d).2 (Rec64 d).1 M100
noncomputable abbrev uuR (d:Nat):=R99 M124 (Rec64 d).2 M125 (Rec64 d).1
abbrev LeOK (l:List Tok) (d:Nat):Prop:=∀ (n a:Nat) (out:List Trm),1≤n→n≤6→8*(l.length-a)+(7-n)<d→a<l.length→out.length+(l.length-a)<200000→∃ r,PE l (.lv n a) r∧RsR l a out r ((Rec64 d).1 (n:Int) l a (-1) out)
abbrev UuOK (l:List Tok) (d:Nat):Prop:=∀ (a:Nat) (out:List Trm),8*(l.length-a)<d→a<l.length→out.length+(l.length-a)<200000→∃ r,PE l (.un a) r∧RsR l a out r ((Rec64 d).2 l a (-1) out)
section
variable {l:List Tok}
theorem qek (hl:toksOK l) (hll:l.length<100000) (d n:Nat) (h1:1≤n) (h5:n≤5) (p1:List Tok) (p2 p3:Int) (p4:List Trm) (a0:Nat) (out0:List Trm) (hb:∀ (a:Nat) (out:List Trm),8*(l.length-a)+(6-n)<d→a<l.length→out.length+(l.length-a)<200000→∃ r,PE l (.lv (n+1) a) r∧RsR l a out r ((Rec64 d).1 ((n+1:Nat):Int) l a (-1) out)):∀ (t b m:Nat) (e:List Trm),l.length-b≤t→t+2<m→8*(l.length-b)+(6-n)<d→a0≤b→b<l.length→out0.length+(l.length-a0)<200000→e.length≤b-a0→
  ∃ r,PE l (.lp n b e) r∧RsR l a0 out0 r (leR d n p1 p2 p3 p4 m (.l0 l b (-1) (out0++e)))
 | t,b,0,e,ht,hm,hd,hab,hbl,ho,he=>by omega
 | 0,b,m+1,e,ht,hm,hd,hab,hbl,ho,he=>by omega
 | t+1,b,m+1,e,ht,hm,hd,hab,hbl,ho,he=>by
   have hU:leR d n p1 p2 p3 p4 (m+1) (.l0 l b (-1) (out0++e))=T64 Ops.std (Rec64 d).2 (Rec64 d).1 M100 n p1 p2 p3 p4 (leR d n p1 p2 p3 p4 m) some (some (.l0 l b (-1) (out0++e))):=rfl
   rw [hU]
   unfold T64
   have hw1:IntKind.wrap IntKind.i64 ((b:Int)+1)=((b+1:Nat):Int):=qag (by omega)
   have hwn:IntKind.wrap IntKind.i64 ((n:Int)+1)=((n+1:Nat):Int):=qag (by omega)
   simp only [qai,qak,qao,qay,qaa,qaf,mt,List.length_cons,List.length_nil,hw1,hwn]
   rw [if_pos (by omega),if_pos (by omega),binary_ref _ _ _ _ n h1,ob_s]
   have hsg:(if (l.getD b (Ty.dflt ty85)).1=4 then (if (sgW (l.getD b (Ty.dflt ty85)).2.1).2=n then (sgW (l.getD b (Ty.dflt ty85)).2.1).1 else 0) else 0)=if (sgE l b).2=n then (sgE l b).1 else 0:=by
    unfold sgE tkD
    by_cases h:(l.getD b (Ty.dflt ty85)).1=4
    ·rw [if_pos h,if_pos h]
    ·rw [if_neg h,if_neg h,if_neg (by show ¬ 0=n;omega)]
   rw [hsg]
   by_cases hs:(sgE l b).2=n
   ·have ho3:=sgE_op hs h1
    rw [if_pos hs,if_neg (by omega)]
    have hb1:=qa0 hl hbl (Ty.dflt ty85) (by rw [show (l.getD b (Ty.dflt ty85)).1=4 from ho3.2.2];decide)
    obtain ⟨r,g1,g2⟩:=hb (b+1) (out0++e) (by omega) hb1 (by simp;omega)
    cases r with
    | bad k=>
      obtain ⟨c,out',g2,g3,g4,g5⟩:=g2
      rw [g2,ob_s]
      dsimp only
      simp only [List.length_append] at g3
      rw [if_pos (by omega)]
      have hbd:=g1.bd hl (by show 1≤n+1;omega) hb1
      refine ⟨_,pe_lpbad hs g1,c,out'++[((sgE l b).1,0,[],[])],?_,by simp;omega,by omega,g5⟩
      by_cases h3:(n:Int)=3
      ·rw [if_pos h3]
      ·rw [if_neg h3]
       obtain ⟨m',rfl⟩:∃ m',m=m'+1:=⟨m-1,by omega⟩
       show T64 Ops.std _ _ _ n p1 p2 p3 p4 _ some _=_
       unfold T64
       simp only [qai,qaa]
       rw [if_neg (by omega)]
    | ok c e2=>
      have g2:(Rec64 d).1 ((n+1:Nat):Int) l ((b+1:Nat):Int) (-1) (out0++e)=some (l,(c:Int),-1,out0++e++e2):=g2
      have hbd:=g1.bd hl (by show 1≤n+1;omega) hb1
      have hc1:b+1<c:=hbd.1
      have hc2:c<l.length:=hbd.2.1
      have hc3:e2.length≤c-(b+1):=hbd.2.2.1
      rw [g2,ob_s]
      dsimp only
      rw [if_pos (by simp only [List.length_append];omega)]
      by_cases h3:n=3
      ·subst h3
       rw [if_pos (by decide)]
       refine ⟨_,pe_three hs g1,?_⟩
       show some _=some _
       simp
      ·rw [if_neg (by omega)]
       obtain ⟨r,j1,j2⟩:=qek hl hll d n h1 h5 p1 p2 p3 p4 a0 out0 hb t c m (e++e2++[((sgE l b).1,0,[],[])]) (by omega) (by omega) (by omega) (by omega) hc2 (by omega) (by simp;omega)
       refine ⟨r,pe_more h3 hs g1 j1,?_⟩
       have ea:out0++(e++e2++[((sgE l b).1,0,[],[])])=out0++e++e2++[((sgE l b).1,0,[],[])]:=by simp
       rw [ea] at j2
       exact j2
   ·rw [if_neg hs,if_pos rfl]
    exact ⟨_,pe_stop hs,rfl⟩
theorem qci (hl:toksOK l) (hll:l.length<100000) (d:Nat) (hu:UuOK l d) (hv:LeOK l d) (p0:List Tok) (p1 p2:Int) (p3:List Trm) (op:Int) (a m:Nat) (out:List Trm) (hd:8*(l.length-a)≤d) (ha:a<l.length) (ho:out.length+(l.length-a)<200000)
  (hop:(op=0∧¬ isS l a [33]=true∧¬ isS l a [45]=true)∨(op=4∧isS l a [33]=true)∨(op=5∧isS l a [45]=true)):∃ r,PE l (.un a) r∧RsR l a out r (uuR d p0 p1 p2 p3 (m+1) (.l1006 op l a (-1) out)):=by
 have hU:uuR d p0 p1 p2 p3 (m+1) (.l1006 op l a (-1) out)=T99 Ops.std M124 (Rec64 d).2 M125 (Rec64 d).1 p0 p1 p2 p3 (uuR d p0 p1 p2 p3 m) some (some (.l1006 op l a (-1) out)):=rfl
 rw [hU]
 unfold T99
 have hw1:IntKind.wrap IntKind.i64 ((a:Int)+1)=((a+1:Nat):Int):=qag (by omega)
 simp only [qai,qaz,qak,qao,qay,qaa,qbt,qaf,mt,List.length_cons,List.length_nil,hw1]
 rcases hop with ⟨rfl,n1,n2⟩ | hop
 ·rw [if_neg (fun h=>h rfl),if_pos (by omega)]
  by_cases k1:(l.getD a (Ty.dflt ty85)).1=1
  ·rw [if_pos k1,if_pos (by omega)]
   exact ⟨_,pe_num k1,rfl⟩
  ·rw [if_neg k1]
   by_cases k2:(l.getD a (Ty.dflt ty85)).1=2
   ·rw [if_pos k2]
    have h1:=qa0 hl ha (Ty.dflt ty85) (by rw [k2];decide)
    have hpe:=pe_word k2
    rw [qei [64] h1,ob_s]
    dsimp only
    cases hs:isS l (a+1) [64] with
    | false=>
      rw [if_neg (by rw [hs];decide)] at hpe
      simp only [cond_false]
      rw [if_pos (by omega)]
      exact ⟨_,hpe,rfl⟩
    | true=>
      rw [if_pos hs] at hpe
      have h2:=qa0 hl h1 (Ty.dflt ty85) (by rw [show (l.getD (a+1) (Ty.dflt ty85)).1=4 from qda hs];decide)
      have hw2:IntKind.wrap IntKind.i64 (((a+1:Nat):Int)+1)=((a+2:Nat):Int):=qag (by omega)
      have hw3:IntKind.wrap IntKind.i64 (((a+2:Nat):Int)+1)=((a+3:Nat):Int):=qag (by omega)
      simp only [cond_true,hw2,hw3,qaf]
      have hin:(0:Int)≤((a+2:Nat):Int)∧((a+2:Nat):Int)<(l.length:Int):=by omega
      simp only [if_pos hin]
      by_cases h3:(l.getD (a+2) (Ty.dflt ty85)).1=2
      ·rw [if_pos h3] at hpe
       rw [if_neg (fun h=>h h3),if_pos (by omega)]
       exact ⟨_,hpe,rfl⟩
      ·rw [if_neg h3] at hpe
       rw [if_pos h3,qej,ob_s]
       exact ⟨_,hpe,a+2,out,rfl,by omega,by omega,h2⟩
   ·rw [if_neg k2,qei [40] ha,ob_s]
    dsimp only
    cases hs:isS l a [40] with
    | false=>
      simp only [cond_false]
      rw [qej,ob_s]
      exact ⟨_,pe_none n1 n2 k1 k2 (by rw [hs];decide),a,out,rfl,by omega,by omega,ha⟩
    | true=>
      simp only [cond_true,hw1]
      have h1:=qa0 hl ha (Ty.dflt ty85) (by rw [show (l.getD a (Ty.dflt ty85)).1=4 from qda hs];decide)
      obtain ⟨r,g1,g2⟩:=hv 1 (a+1) out (by omega) (by omega) (by omega) h1 (by omega)
      have e1:((1:Nat):Int)=1:=rfl
      rw [e1] at g2
      cases r with
      | bad k=>
        obtain ⟨c,out',g2,g3,g4,g5⟩:=g2
        rw [g2,ob_s]
        dsimp only
        rw [if_pos (by omega)]
        exact ⟨_,pe_brab hs g1,c,out',rfl,by omega,by omega,g5⟩
      | ok b e=>
        have g2:(Rec64 d).1 1 l ((a+1:Nat):Int) (-1) out=some (l,(b:Int),-1,out++e):=g2
        have hbd:=g1.bd hl (Nat.le_refl 1) h1
        have hb1:a+1<b:=hbd.1
        have hb2:b<l.length:=hbd.2.1
        have hb3:e.length≤b-(a+1):=hbd.2.2.1
        rw [g2,ob_s]
        dsimp only
        rw [if_neg (by omega),qei [41] hb2,ob_s]
        dsimp only
        refine ⟨_,pe_bra hs g1,?_⟩
        cases hs2:isS l b [41] with
        | false=>
          simp only [Bool.not_false,cond_true]
          rw [qej,ob_s]
          exact ⟨b,out++e,rfl,by simp;omega,by omega,hb2⟩
        | true=>
          have:IntKind.wrap IntKind.i64 ((b:Int)+1)=((b+1:Nat):Int):=qag (by omega)
          simp only [Bool.not_true,cond_false,this]
          exact rfl
 ·have h4:(tkD l a).1=4:=by
   rcases hop with h | h
   ·exact qda h.2
   ·exact qda h.2
  have h0:op≠0:=by
   rcases hop with h | h<;>omega
  have h1:=qa0 hl ha (Ty.dflt ty85) (by rw [show (l.getD a (Ty.dflt ty85)).1=4 from h4];decide)
  rw [if_pos h0]
  obtain ⟨r,g1,g2⟩:=hu (a+1) out (by omega) h1 (by omega)
  have hbd:=g1.bd hl (by show 1≤6;omega) h1
  cases r with
  | bad k=>
    obtain ⟨c,out',g2,g3,g4,g5⟩:=g2
    rw [g2,ob_s]
    dsimp only
    rw [if_pos (by omega)]
    refine ⟨.bad k,?_,c,_,rfl,by simp;omega,by omega,g5⟩
    rcases hop with h | h
    ·exact pe_notb h.2 g1
    ·exact pe_negb h.2 g1
  | ok b e=>
    have g2:(Rec64 d).2 l ((a+1:Nat):Int) (-1) out=some (l,(b:Int),-1,out++e):=g2
    have hb3:e.length≤b-(a+1):=hbd.2.2.1
    have hb2:b<l.length:=hbd.2.1
    rw [g2,ob_s]
    dsimp only
    rw [if_pos (by simp only [List.length_append];omega)]
    rcases hop with ⟨rfl,h⟩ | ⟨rfl,h⟩
    ·refine ⟨_,pe_not h g1,?_⟩
     show some _=some _
     simp
    ·refine ⟨_,pe_neg h g1,?_⟩
     show some _=some _
     simp
theorem qe5 (hl:toksOK l) (hll:l.length<100000):∀ d,LeOK l d∧UuOK l d
 | 0=>⟨fun n a out _ _ h _ _=>(by omega),fun a out h _ _=>(by omega)⟩
 | d+1=>by
   obtain ⟨hv,hu⟩:=qe5 hl hll d
   refine ⟨fun n a out h1 h6 hd ha ho=>?_,fun a out hd ha ho=>?_⟩
   ·show ∃ r,PE l (.lv n a) r∧RsR l a out r (T64 Ops.std (Rec64 d).2 (Rec64 d).1 M100 n l a (-1) out (leR d n l a (-1) out 1000000) some none)
    unfold T64
    simp only [qai,qaa]
    by_cases h5:n=6
    ·subst h5
     rw [if_pos (by decide)]
     obtain ⟨r,g1,g2⟩:=hu a out (by omega) ha ho
     refine ⟨r,pe_six g1,?_⟩
     cases r with
     | bad k=>
       obtain ⟨c,out',g2,g3⟩:=g2
       rw [g2,ob_s]
       exact ⟨c,out',rfl,g3⟩
     | ok b e=>
       have g2:(Rec64 d).2 l (a:Int) (-1) out=some (l,(b:Int),-1,out++e):=g2
       rw [g2,ob_s]
       exact rfl
    ·have hwn:IntKind.wrap IntKind.i64 ((n:Int)+1)=((n+1:Nat):Int):=qag (by omega)
     rw [if_neg (by omega),hwn]
     have hsub:∀ (a:Nat) (out:List Trm),8*(l.length-a)+(6-n)<d→a<l.length→out.length+(l.length-a)<200000→∃ r,PE l (.lv (n+1) a) r∧RsR l a out r ((Rec64 d).1 ((n+1:Nat):Int) l a (-1) out):=fun a out h2 h3 h4=>hv (n+1) a out (by omega) (by omega) (by omega) h3 h4
     obtain ⟨r,g1,g2⟩:=hsub a out (by omega) ha ho
     cases r with
     | bad k=>
       obtain ⟨c,out',g2,g3,g4,g5⟩:=g2
       rw [g2,ob_s]
       dsimp only
       refine ⟨_,pe_bad h5 g1,c,out',?_,g3,g4,g5⟩
       show T64 Ops.std _ _ _ n l a (-1) out _ some _=_
       unfold T64
       simp only [qai,qaa]
       rw [if_neg (by omega)]
     | ok b e=>
       have g2:(Rec64 d).1 ((n+1:Nat):Int) l (a:Int) (-1) out=some (l,(b:Int),-1,out++e):=g2
       have hbd:=g1.bd hl (by show 1≤n+1;omega) ha
       have hc1:a<b:=hbd.1
       have hc2:b<l.length:=hbd.2.1
       have hc3:e.length≤b-a:=hbd.2.2.1
       rw [g2,ob_s]
       obtain ⟨r,j1,j2⟩:=qek hl hll d n h1 (by omega) l a (-1) out a out hsub (l.length-b) b 1000000 e (by omega) (by omega) (by omega) (by omega) hc2 ho hc3
       exact ⟨r,pe_lv h5 g1 j1,j2⟩
   ·show ∃ r,PE l (.un a) r∧RsR l a out r (T99 Ops.std M124 (Rec64 d).2 M125 (Rec64 d).1 l a (-1) out (uuR d l a (-1) out 1000000) some none)
    unfold T99
    simp only [qaz,qaa]
    rw [if_neg (by omega),qei [33] ha,ob_s]
    dsimp only
    cases h1:isS l a [33] with
    | true=>exact qci hl hll d hu hv l a (-1) out 4 a 999999 out (by omega) ha ho (.inr (.inl ⟨rfl,h1⟩))
    | false=>
      simp only [cond_false]
      rw [qei [45] ha,ob_s]
      dsimp only
      cases h2:isS l a [45] with
      | true=>exact qci hl hll d hu hv l a (-1) out 5 a 999999 out (by omega) ha ho (.inr (.inr ⟨rfl,h2⟩))
      | false=>exact qci hl hll d hu hv l a (-1) out 0 a 999999 out (by omega) ha ho (.inl ⟨rfl,by rw [h1];decide,by rw [h2];decide⟩)
theorem take_ref (hl:toksOK l) (hll:l.length≤60001) {a:Nat} (ha:a<l.length):∃ r,PE l (.lv 1 a) r∧M26 l a=some (takeR a r):=by
 obtain ⟨r,g1,g2⟩:=(qe5 hl (by omega) 1000000).1 1 a [] (by omega) (by omega) (by omega) ha (by simp;omega)
 refine ⟨r,g1,?_⟩
 show T26 Ops.std M64 l a some=_
 unfold T26
 simp only [qai,qaz,qaa,mt]
 cases r with
 | bad k=>
   obtain ⟨c,out',g2,_⟩:=g2
   have g2:M64 1 l (a:Int) (-1) []=some (l,(c:Int),(k:Int),out'):=g2
   rw [g2,ob_s]
   dsimp only
   rw [if_pos (by omega)]
   exact rfl
 | ok b e=>
   have g2:M64 1 l (a:Int) (-1) []=some (l,(b:Int),-1,[]++e):=g2
   rw [g2,ob_s]
   simp only [List.nil_append,takeR]
   rw [if_neg (by omega)]
   by_cases h:30<e.length
   ·rw [if_pos (by omega),if_pos h]
   ·rw [if_neg (by omega),if_neg h]
end
theorem parse_ref7 (s:List UInt8):∃ y,ParseIs s y∧M18 s=some y:=by
 have hM:M18 s=T18 Ops.std M23 M26 s some:=rfl
 rw [hM]
 unfold T18
 rw [lex_ref,ob_s]
 simp only [qao,qak,qbt,qaa,mt]
 generalize hr:lexS s=y
 obtain ⟨e,x,l⟩:=y
 dsimp only
 by_cases he:e=0
 ·subst he
  obtain ⟨hl,hlen,hs⟩:=lexS_ok hr
  have hp:=toks_len hl
  obtain ⟨r,g1,g2⟩:=take_ref hl (by omega) hp
  refine ⟨_,.inr ⟨x,l,r,hr,g1,rfl⟩,?_⟩
  obtain ⟨k,e,z,g3,g4⟩:=takeR_in hl hp g1
  rw [g3] at g2
  rw [g3]
  have g2:M26 l 0=some ((k:Int),e,z):=g2
  rw [if_neg (by simp),g2,ob_s]
  unfold parseR
  dsimp only
  simp only [qaf]
  have hin:(0:Int)≤(k:Int)∧(k:Int)<(l.length:Int):=by omega
  simp only [if_pos hin]
  by_cases h0:e=0
  ·subst h0
   rw [if_neg (fun h=>h rfl),if_pos rfl]
   by_cases h5:(l.getD k (Ty.dflt ty85)).1=5
   ·rw [if_neg (fun h=>h h5),if_pos h5]
   ·rw [if_pos h5,if_neg h5]
  ·rw [if_pos h0,if_neg h0]
 ·rw [if_pos he]
  exact ⟨_,.inl ⟨e,x,l,hr,he,rfl⟩,rfl⟩
theorem known8_ok:M14=some true:=by kernel_rfl
theorem parseR_e {l:List Tok} {k e:Int} {x:List Trm} (h:e≠0):parseR l (k,e,x)=(e,(tkD l k.toNat).2.2.2,[]):=if_neg h
theorem ParseIs.good {s:List UInt8} {y:Int×Int×List Trm} (h:ParseIs s y):(y.1=0∧∃ t:Et,t.wf∧y.2.2=t.flat∧t.flat.length≤30)∨(y.1≠0∧y.2.2=[]):=by
 rcases h with ⟨e,x,l,h1,h2,rfl⟩ | ⟨x,l,r,h1,h2,rfl⟩
 ·exact .inr ⟨h2,rfl⟩
 ·obtain ⟨hl,hlen,hs⟩:=lexS_ok h1
  have hbd:=h2.bd hl (Nat.le_refl 1) (toks_len hl)
  cases r with
  | bad k=>
    have e:parseR l (takeR 0 (.bad k))=(2,(tkD l (k:Int).toNat).2.2.2,[]):=parseR_e (by decide)
    rw [e]
    exact .inr ⟨by show (2:Int)≠0;decide,rfl⟩
  | ok b e=>
    by_cases h30:30<e.length
    ·have:takeR 0 (.ok b e)=(0,13,[]):=if_pos h30
     rw [this,parseR_e (by decide)]
     exact .inr ⟨by show (13:Int)≠0;decide,rfl⟩
    ·have:takeR 0 (.ok b e)=((b:Int),0,e):=if_neg h30
     rw [this]
     unfold parseR
     rw [if_pos rfl]
     by_cases h5:(tkD l ((b:Int)).toNat).1=5
     ·rw [if_pos h5]
      obtain ⟨t,t1,t2,t3⟩:=qeh (hbd.2.2.2.right (by omega))
      exact .inl ⟨rfl,t,t1,t2,by rw [←t2];exact t3⟩
     ·rw [if_neg h5]
      exact .inr ⟨by show (2:Int)≠0;decide,rfl⟩
abbrev gV:List Vrb:=[([120],-999,999,0),([121],-999,999,0)]
abbrev gP:List Pcs:=[([112],[[97],[98],[99]]),([113],[[97],[98],[99]])]
theorem gG:smallG gV gP:=⟨by decide,by decide,fun p hp=>by
 simp only [gP,List.mem_cons,List.not_mem_nil,or_false] at hp
 rcases hp with rfl | rfl<;>decide⟩
theorem ground_ok (x y st:Int):∃ k1 k2:Nat,M28 x y st=some (gV,gP,[],[(k1:Int),(k2:Int)],[x,y]):=by
 obtain ⟨k1,_,h1⟩:=pickN st 3 (by omega) (by omega)
 obtain ⟨k2,_,h2⟩:=pickN (IntKind.wrap IntKind.i64 (Int.tdiv st 3)) 3 (by omega) (by omega)
 refine ⟨k1,k2,?_⟩
 show T28 Ops.std M24 x y st some=_
 unfold T28
 have h1':M24 st 3=some (k1:Int):=h1
 have h2':M24 (IntKind.wrap IntKind.i64 (Int.tdiv st 3)) 3=some (k2:Int):=h2
 rw [h1',h2',ob_s,ob_s]
 rfl
theorem Et.short {t:Et} (h:t.wf) (hl:t.flat.length≤30):shortE t.flat:=shortE.of (qbw h hl)
theorem wordLen {w:List UInt8} (h:isWordP w=true):w.length≤8:=by
 cases w with
 | nil=>simp
 | cons b r=>
   simp only [isWordP,Bool.and_eq_true,decide_eq_true_eq] at h
   simpa using h.2
theorem mayLen {t:Trm} (h:mayT t=true):t.2.2.1.length≤8∧t.2.2.2.length≤8:=by
 unfold mayT at h
 split at h
 ·simp only [Bool.and_eq_true,beq_iff_eq] at h
  rw [h.1.2,h.2];simp
 ·split at h
  ·simp only [Bool.and_eq_true,beq_iff_eq] at h
   rw [h.2];exact ⟨wordLen h.1.2,by simp⟩
  ·split at h
   ·simp only [Bool.and_eq_true] at h
    exact ⟨wordLen h.1.2,wordLen h.2⟩
   ·simp only [Bool.and_eq_true,beq_iff_eq] at h
    rw [h.1.2,h.2];simp
def dgT (n:Int):List UInt8:=(itoaF n).getD []
theorem itoa_is {n:Int} (h:0≤n∧n≤999):itoaF n=some (dgT n):=by
 unfold dgT itoaF
 rw [decide_eq_true h.1,decide_eq_true (show n<1000 by omega)]
 rfl
theorem dgT_len (n:Int):(dgT n).length≤3:=by
 unfold dgT itoaF
 cases decide (0≤n) && decide (n<1000) with
 | false=>exact Nat.zero_le _
 | true=>
   cases decide (n<10) with
   | true=>exact (show 1≤3 by decide)
   | false=>
     cases decide (n<100) with
     | true=>exact (show 2≤3 by decide)
     | false=>exact (show 3≤3 by decide)
def leafW (t:Trm):List UInt8:=if t.1=1 then dgT t.2.1 else if t.1=2 then t.2.2.1 else t.2.2.1++[64]++t.2.2.2
def brW (b:Bool) (s:List UInt8):List UInt8:=if b then [40]++s++[41] else s
def Et.prx:Et→List UInt8
 | .nul t=>leafW t
 | .un k x=>unW k++brW (decide (x.lv<6)) x.prx
 | .bi k x y=>brW (decide (x.lv<lfO (lvO k))) x.prx++opW k++brW (decide (y.lv<lvO k+1)) y.prx
theorem opW_len (k:Int):(opW k).length≤2:=by unfold opW;(repeat' split)<;>decide
theorem unW_len (k:Int):(unW k).length=1:=by unfold unW;split<;>rfl
theorem qbx (b:Bool) (s:List UInt8):(brW b s).length≤s.length+2:=by cases b<;>simp [brW]
theorem leafW_len {t:Trm} (h:mayT t=true):(leafW t).length≤17:=by
 have h8:=mayLen h
 have h3:=dgT_len t.2.1
 unfold leafW
 (repeat' split)
 ·omega
 ·omega
 ·simp;omega
theorem Et.prx_len:∀ (t:Et),t.wf→t.prx.length≤20*t.flat.length
 | .nul t,h=>by have:=leafW_len h.1;simp only [Et.prx,Et.flat,List.length_cons,List.length_nil];omega
 | .un k x,h=>by
   have h1:=x.prx_len h.2
   have h2:=qbx (decide (x.lv<6)) x.prx
   have h3:=unW_len k
   simp only [Et.prx,Et.flat,List.length_append,List.length_cons,List.length_nil]
   omega
 | .bi k x y,h=>by
   have h1:=x.prx_len h.2.1
   have h1':=y.prx_len h.2.2
   have h2:=qbx (decide (x.lv<lfO (lvO k))) x.prx
   have h2':=qbx (decide (y.lv<lvO k+1)) y.prx
   have h3:=opW_len k
   simp only [Et.prx,Et.flat,List.length_append,List.length_cons,List.length_nil]
   omega
theorem brk_prog (s:List UInt8) (n m:Int) (hs:s.length≤1000000):M52 s n m=some (brW (decide (n<m)) s):=by
 show T52 Ops.std s n m some=_
 unfold T52
 simp only [qai,qay,qaa]
 by_cases h:n<m
 ·rw [if_pos h,if_pos (by omega),if_pos (by simp;omega),decide_eq_true h];rfl
 ·rw [if_neg h,decide_eq_false h];rfl
theorem both_tab {k:Int} (h:6≤k∧k≤16) (a b:List UInt8) (la lb:Int):M53 k a la b lb=ob (M52 a la ((lfO (lvO k):Nat)-1)) fun y2=>cond (decide ((y2.length+(opW k).length)*1≤140737488355328)) (ob (M52 b lb (lvO k:Nat)) fun y3=>cond (decide (((y2++opW k).length+y3.length)*1≤140737488355328)) (some (y2++opW k++y3,((lvO k:Nat):Int)-1)) none) none:=by
 rcases qdu h with rfl | rfl | rfl | rfl | rfl | rfl | rfl | rfl | rfl | rfl | rfl
 all_goals kernel_rfl
theorem both_prog {k:Int} (h:6≤k∧k≤16) (a b:List UInt8) (la lb:Int) (ha:a.length≤1000000) (hb:b.length≤1000000):M53 k a la b lb=some (brW (decide (la<(lfO (lvO k):Nat)-1)) a++opW k++brW (decide (lb<(lvO k:Nat))) b,((lvO k:Nat):Int)-1):=by
 have h1:=qbx (decide (la<(lfO (lvO k):Nat)-1)) a
 have h2:=qbx (decide (lb<(lvO k:Nat))) b
 have h3:=opW_len k
 rw [both_tab h,brk_prog a _ _ ha,ob_s,brk_prog b _ _ hb,ob_s,decide_eq_true (by omega),decide_eq_true (by simp only [List.length_append];omega)]
 rfl
theorem may_num' {t:Trm} (h:mayT t=true) (h1:t.1=1):0≤t.2.1∧t.2.1≤999:=by
 unfold mayT at h
 rw [if_pos h1] at h
 simp only [Bool.and_eq_true,decide_eq_true_eq] at h
 exact ⟨h.1.1.1,h.1.1.2⟩
abbrev Sdt:=List UInt8×Int
noncomputable abbrev prP (e:List Trm):=R20 M22 M50 M51 M52 M53 e
section
variable {e:List Trm}
theorem prP_nul (i m:Nat) (st:List Sdt) (t:Trm) (hi:i<e.length) (hx:e.getD i (Ty.dflt ty56)=t) (ht:nulT t) (hl:e.length≤30) (hs:st.length≤100):prP e (m+1) (.l0 (e.length:Nat) i st)=prP e m (.l0 (e.length:Nat) ((i+1:Nat):Int) (st++[(leafW t,6)])):=by
 have hop:=ht.op
 obtain ⟨hm,hk⟩:=ht
 have h8:=mayLen hm
 have hU:prP e (m+1) (.l0 (e.length:Nat) i st)=T20 Ops.std M22 M50 M51 M52 M53 e (prP e m) some (some (.l0 (e.length:Nat) i st)):=rfl
 rw [hU]
 unfold T20
 have hw:IntKind.wrap IntKind.i64 ((st.length:Int)-0)=((st.length:Nat):Int):=by rw [wrap64 (by omega) (by omega)];omega
 simp only [qai,qak,qao,qay,qaa,qaf,hx,mt,List.length_cons,List.length_nil,qcc,ob_s,hop,hw,List.take_length,show IntKind.wrap IntKind.i64 ((i:Int)+1)=((i+1:Nat):Int) from qag (by omega)]
 rw [if_pos (by omega),if_pos (by omega)]
 have hin:(0:Int)≤((st.length:Nat):Int)∧((st.length:Nat):Int)<((st.length+1:Nat):Int):=by omega
 rcases hk with h1 | h2 | h3
 ·have hn:M51 t.2.1=some (dgT t.2.1):=itoa_is (may_num' hm h1)
  rw [if_pos h1,hn,ob_s,if_pos hin,if_pos (by omega)]
  unfold leafW
  rw [if_pos h1]
 ·rw [if_neg (by omega),if_pos h2,if_pos hin,if_pos (by omega)]
  unfold leafW
  rw [if_neg (by omega),if_pos h2]
 ·rw [if_neg (by omega),if_neg (by omega),if_pos h3,if_pos (by omega),if_pos (by simp;omega),if_pos hin,if_pos (by omega)]
  unfold leafW
  rw [if_neg (by omega),if_neg (by omega)]
theorem prP_un (i m:Nat) (st:List Sdt) (k:Int) (s:List UInt8) (n:Int) (hi:i<e.length) (hx:e.getD i (Ty.dflt ty56)=(k,0,[],[])) (hk:k=4∨k=5) (hl:e.length≤30) (hs:st.length≤100) (hs2:s.length≤1000):prP e (m+1) (.l0 (e.length:Nat) i (st++[(s,n)]))=prP e m (.l0 (e.length:Nat) ((i+1:Nat):Int) (st++[(unW k++brW (decide (n<5)) s,5)])):=by
 have hop:=opE_un hk
 have hb:=qbx (decide (n<5)) s
 have hU:prP e (m+1) (.l0 (e.length:Nat) i (st++[(s,n)]))=T20 Ops.std M22 M50 M51 M52 M53 e (prP e m) some (some (.l0 (e.length:Nat) i (st++[(s,n)]))):=rfl
 rw [hU]
 unfold T20
 have hlen:(st++[(s,n)]).length=st.length+1:=by simp
 have hw:IntKind.wrap IntKind.i64 (((st++[(s,n)]).length:Int)-1)=((st.length:Nat):Int):=by rw [hlen,wrap64 (by omega) (by omega)];omega
 have hg:(st++[(s,n)]).getD st.length (Ty.dflt ty88)=(s,n):=qa3 st (s,n) [] _
 have htk:(st++[(s,n)]).take st.length=st:=List.take_left
 simp only [qai,qak,qao,qay,qaa,qaf,hx,mt,List.length_cons,List.length_nil,qcc,ob_s,hop,hw,hg,htk,brk_prog s n 5 (by omega),show IntKind.wrap IntKind.i64 ((i:Int)+1)=((i+1:Nat):Int) from qag (by omega)]
 rw [if_pos (by omega),if_pos (by omega),if_neg (by omega),if_neg (by omega),if_neg (by omega)]
 have hin:(0:Int)≤((st.length:Nat):Int)∧((st.length:Nat):Int)<(((st++[(s,n)]).length:Nat):Int):=by omega
 have hin2:(0:Int)≤((st.length:Nat):Int)∧((st.length:Nat):Int)<(((st++[(s,n)]).length+1:Nat):Int):=by omega
 rcases hk with rfl | rfl
 ·rw [if_pos rfl,if_pos hin,if_pos (by omega),if_pos hin2,if_pos (by omega)]
  rfl
 ·rw [if_neg (by decide),if_pos rfl,if_pos hin,if_pos (by omega),if_pos hin2,if_pos (by omega)]
  rfl
theorem prP_bi (i m:Nat) (st:List Sdt) (k:Int) (a b:List UInt8) (la lb:Int) (hi:i<e.length) (hx:e.getD i (Ty.dflt ty56)=(k,0,[],[])) (hk:6≤k∧k≤16) (hl:e.length≤30) (hs:st.length≤100) (ha:a.length≤1000) (hb:b.length≤1000):prP e (m+1) (.l0 (e.length:Nat) i (st++[(a,la),(b,lb)]))=prP e m (.l0 (e.length:Nat) ((i+1:Nat):Int) (st++[(brW (decide (la<(lfO (lvO k):Nat)-1)) a++opW k++brW (decide (lb<(lvO k:Nat))) b,((lvO k:Nat):Int)-1)])):=by
 have hop:=opE_bi hk
 have hU:prP e (m+1) (.l0 (e.length:Nat) i (st++[(a,la),(b,lb)]))=T20 Ops.std M22 M50 M51 M52 M53 e (prP e m) some (some (.l0 (e.length:Nat) i (st++[(a,la),(b,lb)]))):=rfl
 rw [hU]
 unfold T20
 have hlen:(st++[(a,la),(b,lb)]).length=st.length+2:=by simp
 have hw:IntKind.wrap IntKind.i64 (((st++[(a,la),(b,lb)]).length:Int)-2)=((st.length:Nat):Int):=by rw [hlen,wrap64 (by omega) (by omega)];omega
 have hw1:IntKind.wrap IntKind.i64 (((st.length:Nat):Int)+1)=((st.length+1:Nat):Int):=qag (by omega)
 have hg:(st++[(a,la),(b,lb)]).getD st.length (Ty.dflt ty88)=(a,la):=qa3 st (a,la) [(b,lb)] _
 have hg1:(st++[(a,la),(b,lb)]).getD (st.length+1) (Ty.dflt ty88)=(b,lb):=by
  simp
 have htk:(st++[(a,la),(b,lb)]).take st.length=st:=List.take_left
 simp only [qai,qak,qao,qay,qaa,qaf,hx,mt,List.length_cons,List.length_nil,qcc,ob_s,hop,hw,hw1,hg,hg1,htk,both_prog hk a b la lb (by omega) (by omega),show IntKind.wrap IntKind.i64 ((i:Int)+1)=((i+1:Nat):Int) from qag (by omega)]
 rw [if_pos (by omega),if_pos (by omega),if_neg (by omega),if_neg (by omega),if_neg (by omega),if_neg (by omega),if_neg (by omega),if_pos (by omega),if_pos (by omega),if_pos (by omega),if_pos (by omega)]
theorem qdv (hl:e.length≤30):∀ (t:Et),t.wf→∀ (pre rest:List Trm) (st:List Sdt) (m:Nat),e=pre++(t.flat++rest)→st.length+t.flat.length≤40→
  prP e (m+t.flat.length) (.l0 (e.length:Nat) (pre.length:Nat) st)=prP e m (.l0 (e.length:Nat) ((pre.length+t.flat.length:Nat):Int) (st++[(t.prx,((t.lv:Nat):Int)-1)]))
 | .nul t,h,pre,rest,st,m,he,hs=>by
   have hx:e.getD pre.length (Ty.dflt ty56)=t:=by rw [he];exact qa3 pre t rest _
   exact prP_nul pre.length m st t (by rw [he];simp [Et.flat]) hx h hl (by omega)
 | .un k x,h,pre,rest,st,m,he,hs=>by
   have hf:(Et.un k x).flat.length=x.flat.length+1:=by simp [Et.flat]
   have he1:e=pre++(x.flat++((k,0,[],[])::rest)):=by rw [he];simp [Et.flat]
   have ih:=qdv hl x h.2 pre _ st (m+1) he1 (by omega)
   have hel:e.length=pre.length+(x.flat.length+(rest.length+1)):=by rw [he1];simp
   have hx:e.getD (pre.length+x.flat.length) (Ty.dflt ty56)=(k,0,[],[]):=by
    rw [he1,←List.append_assoc,←List.length_append];exact qa3 _ _ rest _
   have hlen:=x.prx_len h.2
   rw [hf,show m+(x.flat.length+1)=m+1+x.flat.length by omega,ih,prP_un _ m st k x.prx _ (by omega) hx h.1 hl (by omega) (by omega)]
   have hd:decide (((x.lv:Nat):Int)-1<5)=decide (x.lv<6):=by congr 1;exact propext ⟨fun h=>by omega,fun h=>by omega⟩
   rw [hd]
   rfl
 | .bi k x y,h,pre,rest,st,m,he,hs=>by
   have hf:(Et.bi k x y).flat.length=x.flat.length+y.flat.length+1:=by simp [Et.flat];omega
   have he1:e=pre++(x.flat++(y.flat++((k,0,[],[])::rest))):=by rw [he];simp [Et.flat]
   have hel:e.length=pre.length+(x.flat.length+(y.flat.length+(rest.length+1))):=by rw [he1];simp
   have ih:=qdv hl x h.2.1 pre _ st (m+1+y.flat.length) he1 (by omega)
   have ih2:=qdv hl y h.2.2 (pre++x.flat) ((k,0,[],[])::rest) (st++[(x.prx,((x.lv:Nat):Int)-1)]) (m+1) (by rw [he1];simp) (by simp;omega)
   rw [List.length_append] at ih2
   have hx:e.getD (pre.length+x.flat.length+y.flat.length) (Ty.dflt ty56)=(k,0,[],[]):=by
    rw [he1,←List.append_assoc,←List.append_assoc,←List.length_append,←List.length_append];exact qa3 _ _ rest _
   have hlen:=x.prx_len h.2.1
   have hlen2:=y.prx_len h.2.2
   have hst:st++[(x.prx,((x.lv:Nat):Int)-1)]++[(y.prx,((y.lv:Nat):Int)-1)]=st++[(x.prx,((x.lv:Nat):Int)-1),(y.prx,((y.lv:Nat):Int)-1)]:=by simp
   rw [hf,show m+(x.flat.length+y.flat.length+1)=m+1+y.flat.length+x.flat.length by omega,ih,ih2,hst,prP_bi _ m st k x.prx y.prx _ _ (by omega) hx h.1 hl (by omega) (by omega) (by omega)]
   have hd:decide (((x.lv:Nat):Int)-1<(lfO (lvO k):Nat)-1)=decide (x.lv<lfO (lvO k)):=by congr 1;exact propext ⟨fun h=>by omega,fun h=>by omega⟩
   have hd2:decide (((y.lv:Nat):Int)-1<(lvO k:Nat))=decide (y.lv<lvO k+1):=by congr 1;exact propext ⟨fun h=>by omega,fun h=>by omega⟩
   rw [hd,hd2,show pre.length+x.flat.length+y.flat.length+1=pre.length+(x.flat.length+y.flat.length+1) by omega]
   rfl
end
theorem print_prog {t:Et} (h:t.wf) (hl:t.flat.length≤30):M20 t.flat=some t.prx:=by
 show T20 Ops.std M22 M50 M51 M52 M53 t.flat (prP t.flat 1000000) some none=_
 unfold T20
 rw [qbb t.flat (by omega),ob_s,qbw h hl]
 simp only [Bool.not_true,cond_false]
 have:=qdv (e:=t.flat) hl t h [] [] [] (1000000-t.flat.length) (by simp) (by simp;omega)
 rw [show 1000000-t.flat.length+t.flat.length=1000000 by omega] at this
 refine Eq.trans this ?_
 obtain ⟨m,hm⟩:∃ m,1000000-t.flat.length=m+1:=⟨1000000-t.flat.length-1,by omega⟩
 rw [hm]
 have hU:∀ (i:Int) (st:List Sdt),prP t.flat (m+1) (.l0 (t.flat.length:Nat) i st)=T20 Ops.std M22 M50 M51 M52 M53 t.flat (prP t.flat m) some (some (.l0 (t.flat.length:Nat) i st)):=fun _ _=>rfl
 rw [hU]
 unfold T20
 simp only [qai,qak,qaa]
 rw [if_neg (by simp),if_pos (by simp)]
 rfl
theorem print_no {e:List Trm} (he:e.length<900000) (h:rightE e=false):M20 e=some []:=by
 show T20 Ops.std M22 M50 M51 M52 M53 e (prP e 1000000) some none=_
 unfold T20
 rw [qbb e he,ob_s,h]
 rfl
def hdOK (s:List UInt8):Prop:=∃ (d:UInt8) (q:List UInt8),s=d::q∧d≠61∧d≠62
theorem hdOK.app {s:List UInt8} (h:hdOK s) (r:List UInt8):hdOK (s++r):=by
 obtain ⟨d,q,rfl,h⟩:=h
 exact ⟨d,q++r,rfl,h⟩
theorem noWord.op {k:Int} (hk:6≤k∧k≤16) (r:List UInt8):noWord (opW k++r):=by
 rcases qdu hk with rfl | rfl | rfl | rfl | rfl | rfl | rfl | rfl | rfl | rfl | rfl<;>exact noWord.cons rfl
noncomputable abbrev eqR (a b:List Trm):=R65 a b
theorem qe6 (a b:List Trm) (hl:a.length=b.length) (h1:a.length≤100000):∀ (t i n:Nat),i+t=a.length→t<n→a.take i=b.take i→∃ r:Bool,eqR a b n (.l0 (a.length:Nat) i)=some r∧(r=true↔a=b)
 | t,i,0,hi,hn,hp=>by omega
 | 0,i,n+1,hi,hn,hp=>by
   show ∃ r,T65 Ops.std a b _ some _=some r∧_
   unfold T65
   simp only [qai,qaa]
   rw [if_neg (by omega)]
   rw [List.take_of_length_le (by omega),List.take_of_length_le (by omega)] at hp
   exact ⟨true,rfl,fun _=>hp,fun _=>rfl⟩
 | t+1,i,n+1,hi,hn,hp=>by
   have ih:=qe6 a b hl h1 t (i+1) n (by omega) (by omega)
   show ∃ r,T65 Ops.std a b _ some _=some r∧_
   unfold T65
   simp only [qai,qak,qao,qaa,qaf,show IntKind.wrap IntKind.i64 ((i:Int)+1)=((i+1:Nat):Int) from qag (by omega)]
   rw [if_pos (by omega),if_pos (by omega),if_pos (by omega)]
   have ha:a.getD i (Ty.dflt ty56)=a[i]:=by rw [List.getD_eq_getElem?_getD,List.getElem?_eq_getElem (by omega)];rfl
   have hb:b.getD i (Ty.dflt ty56)=b[i]:=by rw [List.getD_eq_getElem?_getD,List.getElem?_eq_getElem (by omega)];rfl
   rw [ha,hb]
   have ht:∀ x y:Trm,(decide (x.1=y.1) && (decide (x.2.1=y.2.1) && (x.2.2.1 == y.2.2.1 && (x.2.2.2 == y.2.2.2 && true))))=decide (x=y):=fun x y=>by
    obtain ⟨a,b,c,d⟩:=x
    obtain ⟨a',b',c',d'⟩:=y
    rw [Bool.eq_iff_iff]
    simp only [Bool.and_eq_true,decide_eq_true_eq,beq_iff_eq,Prod.mk.injEq,and_true]
   rw [ht]
   by_cases he:a[i]=b[i]
   ·rw [decide_eq_true he]
    simp only [Bool.not_true,cond_false]
    refine ih ?_
    rw [List.take_succ_eq_append_getElem (by omega),List.take_succ_eq_append_getElem (by omega),hp,he]
   ·rw [decide_eq_false he]
    refine ⟨false,rfl,fun h=>(by cases h),fun h=>?_⟩
    subst h
    exact absurd rfl he
theorem same_prog8 (a b:List Trm) (h1:a.length≤100000):∃ r:Bool,M27 a b=some r∧(r=true↔a=b):=by
 have key:∃ r:Bool,M65 a b=some r∧(r=true↔a=b):=by
  show ∃ r,T65 Ops.std a b (eqR a b 1000000) some none=some r∧_
  unfold T65
  simp only [qao,qbt,qaa]
  by_cases hl:a.length=b.length
  ·rw [if_neg (by omega)]
   exact qe6 a b hl h1 a.length 0 1000000 (by omega) (by omega) rfl
  ·rw [if_pos (by omega)]
   exact ⟨false,rfl,fun h=>(by cases h),fun h=>absurd (congrArg List.length h) hl⟩
 obtain ⟨r,h1,h2⟩:=key
 refine ⟨r,?_,h2⟩
 show T27 Ops.std M65 a b some=_
 unfold T27
 rw [h1,ob_s]
section
variable {p0 p1:List Int} {t:Et} (ht:t.wf) (hl:t.flat.length≤30)
end
theorem decimal_all:(List.range 1000).all (fun n=>M56 (n:Int) == itoaF (n:Int))=true:=by kernel_rfl
theorem decimal_is {n:Int} (h:0≤n∧n≤999):M56 n=some (dgT n):=by
 obtain ⟨k,rfl⟩:∃ k:Nat,n=(k:Int):=⟨n.toNat,by omega⟩
 have:=List.all_eq_true.1 decimal_all k (List.mem_range.2 (by omega))
 rw [beq_iff_eq] at this
 rw [this,itoa_is h]
theorem tb_un {k:Int} (h:k=4∨k=5):List.getD (mt UInt8::mt UInt8::mt UInt8::mt UInt8::([33]:List UInt8)::([45]:List UInt8)::([42]:List UInt8)::([43]:List UInt8)::([45]:List UInt8)::([60]:List UInt8)::([60,61]:List UInt8)::([62]:List UInt8)::([62,61]:List UInt8)::([61,61]:List UInt8)::([33,61]:List UInt8)::([38,38]:List UInt8)::([124,124]:List UInt8)::mt (List UInt8)) k.toNat (mt UInt8)=unW k:=by
 rcases h with rfl | rfl<;>rfl
theorem tb_bi {k:Int} (h:6≤k∧k≤16):List.getD (mt UInt8::mt UInt8::mt UInt8::mt UInt8::([33]:List UInt8)::([45]:List UInt8)::([42]:List UInt8)::([43]:List UInt8)::([45]:List UInt8)::([60]:List UInt8)::([60,61]:List UInt8)::([62]:List UInt8)::([62,61]:List UInt8)::([61,61]:List UInt8)::([33,61]:List UInt8)::([38,38]:List UInt8)::([124,124]:List UInt8)::mt (List UInt8)) k.toNat (mt UInt8)=opW k:=by
 rcases qdu h with rfl | rfl | rfl | rfl | rfl | rfl | rfl | rfl | rfl | rfl | rfl<;>rfl
theorem str_nul {t:Trm} (h:nulT t):M54 t.1=some 7:=by
 obtain ⟨_,h | h | h⟩:=h<;>rw [h]<;>rfl
theorem str_un {k:Int} (h:k=4∨k=5):M54 k=some 6:=by rcases h with rfl | rfl<;>rfl
theorem str_bi {k:Int} (h:6≤k∧k≤16):M54 k=some ((lvO k:Nat):Int):=by
 rcases qdu h with rfl | rfl | rfl | rfl | rfl | rfl | rfl | rfl | rfl | rfl | rfl<;>rfl
theorem qct (s:List UInt8) (n m:Int) (hs:s.length≤1000000):M57 s n m=some (brW (decide (n<m)) s):=by
 show T57 Ops.std s n m some=_
 unfold T57
 simp only [qai,qay,qaa]
 by_cases h:n<m
 ·rw [if_pos h,if_pos (by omega),if_pos (by simp;omega),decide_eq_true h];rfl
 ·rw [if_neg h,decide_eq_false h];rfl
noncomputable abbrev prQ (e:List Trm):=R21 M36 M54 M55 M56 M57 e
section
variable {e:List Trm}
theorem prQ_nul (i m:Nat) (st:List Sdt) (t:Trm) (hi:i<e.length) (hx:e.getD i (Ty.dflt ty56)=t) (ht:nulT t) (hl:e.length≤30) (hs:st.length≤100):prQ e (m+1) (.l0 i st)=prQ e m (.l0 ((i+1:Nat):Int) (st++[(leafW t,7)])):=by
 have hop:=ht.op
 have hst:=str_nul ht
 obtain ⟨hm,hk⟩:=ht
 have h8:=mayLen hm
 have hU:prQ e (m+1) (.l0 i st)=T21 Ops.std M36 M54 M55 M56 M57 e (prQ e m) some (some (.l0 i st)):=rfl
 rw [hU]
 unfold T21
 simp only [qai,qak,qao,qay,qaa,qaf,hx,mt,List.length_cons,List.length_nil,opE_ref,hst,ob_s,hop,show IntKind.wrap IntKind.i64 ((i:Int)+1)=((i+1:Nat):Int) from qag (by omega)]
 rw [if_pos (by omega),if_pos (by omega),if_pos trivial]
 rcases hk with h1 | h2 | h3
 ·rw [if_pos h1,decimal_is (may_num' hm h1),ob_s,if_pos (by omega)]
  unfold leafW
  rw [if_pos h1]
 ·rw [if_neg (by omega),if_pos h2,if_pos (by omega)]
  unfold leafW
  rw [if_neg (by omega),if_pos h2]
 ·rw [if_neg (by omega),if_neg (by omega),if_pos (by omega),if_pos (by simp;omega),if_pos (by omega)]
  unfold leafW
  rw [if_neg (by omega),if_neg (by omega)]
theorem prQ_un (i m:Nat) (st:List Sdt) (k:Int) (s:List UInt8) (n:Int) (hi:i<e.length) (hx:e.getD i (Ty.dflt ty56)=(k,0,[],[])) (hk:k=4∨k=5) (hl:e.length≤30) (hs:st.length≤100) (hs2:s.length≤1000):prQ e (m+1) (.l0 i (st++[(s,n)]))=prQ e m (.l0 ((i+1:Nat):Int) (st++[(unW k++brW (decide (n<6)) s,6)])):=by
 have hop:=opE_un hk
 have hst:=str_un hk
 have hb:=qbx (decide (n<6)) s
 have hu:=unW_len k
 have hU:prQ e (m+1) (.l0 i (st++[(s,n)]))=T21 Ops.std M36 M54 M55 M56 M57 e (prQ e m) some (some (.l0 i (st++[(s,n)]))):=rfl
 rw [hU]
 unfold T21
 have hlen:(st++[(s,n)]).length=st.length+1:=by simp
 have hw:IntKind.wrap IntKind.i64 (((st++[(s,n)]).length:Int)-1)=((st.length:Nat):Int):=by rw [hlen,wrap64 (by omega) (by omega)];omega
 have hg:(st++[(s,n)]).getD st.length (Ty.dflt ty93)=(s,n):=qa3 st (s,n) [] _
 have htk:(st++[(s,n)]).take st.length=st:=List.take_left
 have htb:=tb_un hk
 simp only [mt] at htb
 simp only [qai,qak,qao,qay,qaa,qaf,hx,mt,List.length_cons,List.length_nil,opE_ref,hst,ob_s,hop,hw,hg,htk,htb,qct s n 6 (by omega),show IntKind.wrap IntKind.i64 ((i:Int)+1)=((i+1:Nat):Int) from qag (by omega)]
 rw [if_pos (by omega),if_pos (by omega),if_neg (by omega),if_pos trivial,if_neg (by omega),if_pos (by omega),if_pos (by omega),if_pos (by omega),if_pos (by omega),if_pos (by omega)]
theorem prQ_bi (i m:Nat) (st:List Sdt) (k:Int) (a b:List UInt8) (la lb:Int) (hi:i<e.length) (hx:e.getD i (Ty.dflt ty56)=(k,0,[],[])) (hk:6≤k∧k≤16) (hl:e.length≤30) (hs:st.length≤100) (ha:a.length≤1000) (hb:b.length≤1000):prQ e (m+1) (.l0 i (st++[(a,la),(b,lb)]))=prQ e m (.l0 ((i+1:Nat):Int) (st++[(brW (decide (la<(lfO (lvO k):Nat))) a++opW k++brW (decide (lb<(lvO k+1:Nat))) b,((lvO k:Nat):Int))])):=by
 have hop:=opE_bi hk
 have hst:=str_bi hk
 have hl5:=lvO_le k
 have ha2:=qbx (decide (la<(lfO (lvO k):Nat))) a
 have hb2:=qbx (decide (lb<(lvO k+1:Nat))) b
 have ho:=opW_len k
 have hU:prQ e (m+1) (.l0 i (st++[(a,la),(b,lb)]))=T21 Ops.std M36 M54 M55 M56 M57 e (prQ e m) some (some (.l0 i (st++[(a,la),(b,lb)]))):=rfl
 rw [hU]
 unfold T21
 have hlen:(st++[(a,la),(b,lb)]).length=st.length+2:=by simp
 have hw:IntKind.wrap IntKind.i64 (((st++[(a,la),(b,lb)]).length:Int)-2)=((st.length:Nat):Int):=by rw [hlen,wrap64 (by omega) (by omega)];omega
 have hw1:IntKind.wrap IntKind.i64 (((st++[(a,la),(b,lb)]).length:Int)-1)=((st.length+1:Nat):Int):=by rw [hlen,wrap64 (by omega) (by omega)];omega
 have hw2:IntKind.wrap IntKind.i64 (((lvO k:Nat):Int)+1)=((lvO k+1:Nat):Int):=qag (by omega)
 have hg:(st++[(a,la),(b,lb)]).getD st.length (Ty.dflt ty93)=(a,la):=qa3 st (a,la) [(b,lb)] _
 have hg1:(st++[(a,la),(b,lb)]).getD (st.length+1) (Ty.dflt ty93)=(b,lb):=by
  simp
 have htk:(st++[(a,la),(b,lb)]).take st.length=st:=List.take_left
 have htb:=tb_bi hk
 simp only [mt] at htb
 simp only [qai,qak,qao,qay,qaa,qaf,hx,mt,List.length_cons,List.length_nil,opE_ref,hst,ob_s,hop,hw,hw1,hw2,hg,hg1,htk,htb,qct b lb _ (show b.length≤1000000 by omega),show IntKind.wrap IntKind.i64 ((i:Int)+1)=((i+1:Nat):Int) from qag (by omega)]
 rw [if_pos (by omega),if_pos (by omega),if_neg (by omega),if_neg (by omega),if_neg (by omega)]
 by_cases h3:lvO k=3
 ·have hlf:lfO (lvO k)=4:=if_pos h3
  rw [hlf] at ha2 ⊢
  rw [if_pos (by omega),if_pos (by omega),if_pos (by omega),if_pos (by omega),qct a la 4 (by omega),ob_s]
  have e4:((4:Nat):Int)=4:=rfl
  rw [e4] at ha2 ⊢
  rw [if_pos (by omega),if_pos (by simp only [List.length_append];omega),if_pos (by omega),if_pos (by omega)]
 ·have hlf:lfO (lvO k)=lvO k:=if_neg h3
  rw [hlf] at ha2 ⊢
  rw [if_neg (by omega),if_pos (by omega),if_pos (by omega),if_pos (by omega),qct a la _ (by omega),ob_s]
  rw [if_pos (by omega),if_pos (by simp only [List.length_append];omega),if_pos (by omega),if_pos (by omega)]
theorem qdw (hl:e.length≤30):∀ (t:Et),t.wf→∀ (pre rest:List Trm) (st:List Sdt) (m:Nat),e=pre++(t.flat++rest)→st.length+t.flat.length≤40→
  prQ e (m+t.flat.length) (.l0 (pre.length:Nat) st)=prQ e m (.l0 ((pre.length+t.flat.length:Nat):Int) (st++[(t.prx,((t.lv:Nat):Int))]))
 | .nul t,h,pre,rest,st,m,he,hs=>by
   have hx:e.getD pre.length (Ty.dflt ty56)=t:=by rw [he];exact qa3 pre t rest _
   exact prQ_nul pre.length m st t (by rw [he];simp [Et.flat]) hx h hl (by omega)
 | .un k x,h,pre,rest,st,m,he,hs=>by
   have hf:(Et.un k x).flat.length=x.flat.length+1:=by simp [Et.flat]
   have he1:e=pre++(x.flat++((k,0,[],[])::rest)):=by rw [he];simp [Et.flat]
   have ih:=qdw hl x h.2 pre _ st (m+1) he1 (by omega)
   have hel:e.length=pre.length+(x.flat.length+(rest.length+1)):=by rw [he1];simp
   have hx:e.getD (pre.length+x.flat.length) (Ty.dflt ty56)=(k,0,[],[]):=by
    rw [he1,←List.append_assoc,←List.length_append];exact qa3 _ _ rest _
   have hlen:=x.prx_len h.2
   rw [hf,show m+(x.flat.length+1)=m+1+x.flat.length by omega,ih,prQ_un _ m st k x.prx _ (by omega) hx h.1 hl (by omega) (by omega)]
   have hd:decide (((x.lv:Nat):Int)<6)=decide (x.lv<6):=by congr 1;exact propext ⟨fun h=>by omega,fun h=>by omega⟩
   rw [hd]
   rfl
 | .bi k x y,h,pre,rest,st,m,he,hs=>by
   have hf:(Et.bi k x y).flat.length=x.flat.length+y.flat.length+1:=by simp [Et.flat];omega
   have he1:e=pre++(x.flat++(y.flat++((k,0,[],[])::rest))):=by rw [he];simp [Et.flat]
   have hel:e.length=pre.length+(x.flat.length+(y.flat.length+(rest.length+1))):=by rw [he1];simp
   have ih:=qdw hl x h.2.1 pre _ st (m+1+y.flat.length) he1 (by omega)
   have ih2:=qdw hl y h.2.2 (pre++x.flat) ((k,0,[],[])::rest) (st++[(x.prx,((x.lv:Nat):Int))]) (m+1) (by rw [he1];simp) (by simp;omega)
   rw [List.length_append] at ih2
   have hx:e.getD (pre.length+x.flat.length+y.flat.length) (Ty.dflt ty56)=(k,0,[],[]):=by
    rw [he1,←List.append_assoc,←List.append_assoc,←List.length_append,←List.length_append];exact qa3 _ _ rest _
   have hlen:=x.prx_len h.2.1
   have hlen2:=y.prx_len h.2.2
   have hst:st++[(x.prx,((x.lv:Nat):Int))]++[(y.prx,((y.lv:Nat):Int))]=st++[(x.prx,((x.lv:Nat):Int)),(y.prx,((y.lv:Nat):Int))]:=by simp
   rw [hf,show m+(x.flat.length+y.flat.length+1)=m+1+y.flat.length+x.flat.length by omega,ih,ih2,hst,prQ_bi _ m st k x.prx y.prx _ _ (by omega) hx h.1 hl (by omega) (by omega) (by omega)]
   have hd:decide (((x.lv:Nat):Int)<(lfO (lvO k):Nat))=decide (x.lv<lfO (lvO k)):=by congr 1;exact propext ⟨fun h=>by omega,fun h=>by omega⟩
   have hd2:decide (((y.lv:Nat):Int)<(lvO k+1:Nat))=decide (y.lv<lvO k+1):=by congr 1;exact propext ⟨fun h=>by omega,fun h=>by omega⟩
   rw [hd,hd2,show pre.length+x.flat.length+y.flat.length+1=pre.length+(x.flat.length+y.flat.length+1) by omega]
   rfl
end
theorem smallE_tree {t:Et} (h:t.wf) (hl:t.flat.length≤30):smallE t.flat:=by
 refine ⟨by omega,fun p hp=>?_⟩
 have hr:=qbw h hl
 unfold rightE fin30 at hr
 cases hg:eGo t.flat 0 with
 | none=>rw [hg] at hr;cases hr
 | some d=>
   have hm:∀ (e:List Trm) (d n:Int),eGo e d=some n→∀ t∈e,mayT t=true:=by
    intro e
    induction e with
    | nil=>intro d n _ t ht;cases ht
    | cons p r ih=>
      intro d n h t ht
      simp only [eGo] at h
      split at h
      ·cases h
      ·rename_i hc
       simp only [Bool.or_eq_true,Bool.not_eq_true',not_or,Bool.not_eq_false] at hc
       rcases List.mem_cons.1 ht with rfl | ht
       ·exact hc.1
       ·exact ih _ n h t ht
   have:=mayLen (hm _ _ _ hg p hp)
   omega
theorem print_ref {t:Et} (h:t.wf) (hl:t.flat.length≤30):M21 t.flat=some t.prx:=by
 show T21 Ops.std M36 M54 M55 M56 M57 t.flat (prQ t.flat 1000000) some none=_
 unfold T21
 rw [qcd t.flat (smallE_tree h hl) (by omega),ob_s,qbw h hl]
 simp only [Bool.not_true,cond_false]
 have:=qdw (e:=t.flat) hl t h [] [] [] (1000000-t.flat.length) (by simp) (by simp;omega)
 rw [show 1000000-t.flat.length+t.flat.length=1000000 by omega] at this
 refine Eq.trans this ?_
 obtain ⟨m,hm⟩:∃ m,1000000-t.flat.length=m+1:=⟨1000000-t.flat.length-1,by omega⟩
 rw [hm]
 have hU:∀ (i:Int) (st:List Sdt),prQ t.flat (m+1) (.l0 i st)=T21 Ops.std M36 M54 M55 M56 M57 t.flat (prQ t.flat m) some (some (.l0 i st)):=fun _ _=>rfl
 rw [hU]
 unfold T21
 simp only [qai,qao,qak,qaa]
 rw [if_neg (by simp),if_neg (by simp),if_pos (by simp)]
 rfl
theorem print_refno {e:List Trm} (he:smallE e) (h3:e.length<300000) (h:rightE e=false):M21 e=some []:=by
 show T21 Ops.std M36 M54 M55 M56 M57 e (prQ e 1000000) some none=_
 unfold T21
 rw [qcd e he h3,ob_s,h]
 rfl
def midE (f:List Trm):Prop:=f.length≤100∧∀ t∈f,t.2.2.1.length≤20∧t.2.2.2.length≤20
theorem shortE.mid {f:List Trm} (h:shortE f):midE f:=⟨by have:=h.1;omega,fun t ht=>by have:=h.2 t ht;omega⟩
theorem midE.small {f:List Trm} (h:midE f):smallE f:=⟨by have:=h.1;omega,fun t ht=>by have:=h.2 t ht;omega⟩
theorem midE.rtR {f:List Trm} (h:midE f):M36 f=some (rightE f):=qcd f h.small (by have:=h.1;omega)
section
variable {vs:List Vrb} {ps:List Pcs} (ts:List Trn)
theorem qel (hg:smallG vs ps) (e:List Trm) (he:midE e):∀ (t i n:Nat),i+t=e.length→t<n→(∀ x∈e.take i,knE vs ps ts x)→∃ b,R37 M74 M75 M77 M36 vs ps ts e n (.l0 i)=some b∧(b=true→rightE e=true∧∀ x∈e,knE vs ps ts x)
 | t,i,0,hi,hn,hk=>by omega
 | 0,i,n+1,hi,hn,hk=>by
   show ∃ b,T37 Ops.std _ _ _ _ vs ps ts e _ some _=some b∧_
   unfold T37
   simp only [qai,qaa]
   rw [if_neg (by omega),he.rtR,ob_s]
   refine ⟨_,rfl,fun h=>⟨h,?_⟩⟩
   rwa [List.take_of_length_le (by omega)] at hk
 | t+1,i,n+1,hi,hn,hk=>by
   have ih:=qel hg e he t (i+1) n (by omega) (by omega)
   have h30:=he.1
   obtain ⟨x,hx⟩:∃ x,e.getD i (Ty.dflt ty56)=x:=⟨_,rfl⟩
   have htk:e.take (i+1)=e.take i++[x]:=by
    rw [List.take_succ_eq_append_getElem (by omega)]
    rw [List.getD_eq_getElem?_getD,List.getElem?_eq_getElem (by omega)] at hx
    rw [←hx];rfl
   have nxt:knE vs ps ts x→∀ y∈e.take (i+1),knE vs ps ts y:=fun h y hy=>by
    rw [htk] at hy
    rcases List.mem_append.1 hy with hy | hy
    ·exact hk y hy
    ·simp only [List.mem_singleton] at hy;rw [hy];exact h
   show ∃ b,T37 Ops.std _ _ _ _ vs ps ts e _ some _=some b∧_
   unfold T37
   simp only [qai,qak,qao,qaa,qaf,hx,show IntKind.wrap IntKind.i64 ((i:Int)+1)=((i+1:Nat):Int) from qag (by omega)]
   rw [if_pos (by omega),if_pos (by omega)]
   obtain ⟨r,r1,r2⟩:=qbu vs ps ts hg.v x.2.2.1
   obtain ⟨q,q1,q2⟩:=qc9 vs ps ts hg.p x.2.2.1
   obtain ⟨z,z1,z2⟩:=place_ok vs ps ts hg.l q q2 x.2.2.2
   by_cases h2:x.1=2
   ·rw [if_pos h2,if_pos (by omega),r1,ob_s]
    by_cases hr:r<0
    ·rw [if_pos hr];exact ⟨_,rfl,fun h=>by cases h⟩
    ·rw [if_neg hr,if_pos (by omega),if_neg (by omega)]
     refine ih (nxt ⟨fun _=>?_,fun h=>by omega⟩)
     rcases r2 with rfl | ⟨k,hk1,rfl⟩
     ·omega
     ·exact ⟨k,hk1,r1⟩
   ·rw [if_neg h2,if_pos (by omega)]
    by_cases h3:x.1=3
    ·rw [if_pos h3,if_pos (by omega),if_pos (by omega),q1,ob_s,z1,ob_s]
     by_cases hz:z<0
     ·rw [if_pos hz];exact ⟨_,rfl,fun h=>by cases h⟩
     ·rw [if_neg hz]
      obtain ⟨q',hq',rfl⟩:=z2 (by omega)
      exact ih (nxt ⟨fun h=>by omega,fun _=>⟨q',z,hq',q1,z1⟩⟩)
    ·rw [if_neg h3]
     exact ih (nxt ⟨fun h=>absurd h h2,fun h=>absurd h h3⟩)
theorem qem (hg:smallG vs ps) (e:List Trm) (he:midE e):∃ b,M37 vs ps ts e=some b∧(b=true→rightE e=true∧∀ x∈e,knE vs ps ts x):=by
 show ∃ b,T37 Ops.std M74 M75 M77 M36 vs ps ts e (R37 M74 M75 M77 M36 vs ps ts e 1000000) some none=some b∧_
 unfold T37
 exact qel ts hg e he e.length 0 1000000 (by omega) (by have:=he.1;omega) (fun x h=>by simp at h)
theorem qdl (hg:smallG vs ps) (e:List Trm) (he:midE e):∀ (t i n:Nat),i+t=e.length→t<n→kxP vs ps ts e n (.l0 (e.length:Nat) i)=kxR vs ps ts e n (.l0 i)
 | t,i,0,hi,hn=>by omega
 | 0,i,n+1,hi,hn=>by
   show T32 Ops.std _ _ _ vs ps ts e _ some _=T37 Ops.std _ _ _ _ vs ps ts e _ some _
   unfold T32 T37
   simp only [qai,qaa]
   rw [if_neg (by omega),if_neg (by omega),he.rtR,ob_s,qbb e (by have:=he.1;omega),ob_s]
 | t+1,i,n+1,hi,hn=>by
   have ih:=qdl hg e he t (i+1) n (by omega) (by omega)
   have h30:=he.1
   obtain ⟨x,hx⟩:∃ x,e.getD i (Ty.dflt ty56)=x:=⟨_,rfl⟩
   obtain ⟨q,r,q1,r1,p1⟩:=place_eq ts hg x.2.2.1 x.2.2.2
   obtain ⟨v,v1,v2⟩:=qbu vs ps ts hg.v x.2.2.1
   show T32 Ops.std _ _ _ vs ps ts e _ some _=T37 Ops.std _ _ _ _ vs ps ts e _ some _
   unfold T32 T37
   simp only [qai,qak,qao,qaa,qaf,hx,qch ts hg.v,show IntKind.wrap IntKind.i64 ((i:Int)+1)=((i+1:Nat):Int) from qag (by omega)]
   have hin:(0:Int)≤(i:Int)∧(i:Int)<(e.length:Int):=by omega
   simp only [if_pos hin,if_pos hin.2]
   by_cases h2:x.1=2
   ·rw [if_pos h2,if_pos h2,v1,ob_s,ob_s]
    by_cases hv:v<0
    ·rw [if_pos hv,if_pos hv]
    ·rw [if_neg hv,if_neg hv,if_neg (by omega)];exact ih
   ·rw [if_neg h2,if_neg h2]
    by_cases h3:x.1=3
    ·rw [if_pos h3,if_pos h3,p1,ob_s,q1,ob_s,r1,ob_s]
     dsimp only
     by_cases hr:r<0
     ·rw [if_pos hr,if_pos hr]
     ·rw [if_neg hr,if_neg hr];exact ih
    ·rw [if_neg h3,if_neg h3];exact ih
theorem qe7 (hg:smallG vs ps) (e:List Trm) (he:midE e):M32 vs ps ts e=some (knB vs ps ts e):=by
 obtain ⟨b,hb,_⟩:=qem ts hg e he
 have:M32 vs ps ts e=M37 vs ps ts e:=by
  show T32 Ops.std M68 M69 M22 vs ps ts e (kxP vs ps ts e 1000000) some none=T37 Ops.std M74 M75 M77 M36 vs ps ts e (kxR vs ps ts e 1000000) some none
  unfold T32 T37
  exact qdl ts hg e he e.length 0 1000000 (by omega) (by have:=he.1;omega)
 rw [this]
 unfold knB
 rw [hb];rfl
theorem eval_mid (hg:smallG vs ps) (s1 s2:List Int) (e:List Trm) (he:midE e):∃ v,M33 vs ps ts s1 s2 e=some v∧M34 vs ps ts s1 s2 e=some v:=by
 obtain ⟨b,b1,b2⟩:=qem ts hg e he
 have e1:knB vs ps ts e=b:=by unfold knB;rw [b1];rfl
 cases b with
 | true=>
   have hs:shortE e:=shortE.of (b2 rfl).1
   obtain ⟨v,hv⟩:=eval_ok hg s1 s2 e hs
   exact ⟨v,(evalP_eq ts hg s1 s2 e hs).trans hv,hv⟩
 | false=>
   refine ⟨0,?_,?_⟩
   ·show T33 Ops.std M32 M50 M68 M70 M69 M71 M72 vs ps ts s1 s2 e (evP vs ps ts s1 s2 e 1000000) some none=_
    unfold T33
    rw [qe7 ts hg e he,ob_s,e1];rfl
   ·show T34 Ops.std M37 M74 M73 M75 M77 M76 M78 vs ps ts s1 s2 e (evR vs ps ts s1 s2 e 1000000) some none=_
    unfold T34
    rw [b1,ob_s];rfl
end
theorem qe8 (a b:List Trm) (hl:a.length=b.length) (h1:a.length≤100000):∀ (t i n:Nat),i+t=a.length→t<n→a.take i=b.take i→∃ r:Bool,R19 a b n (.l0 i)=some r∧(r=true↔a=b)
 | t,i,0,hi,hn,hp=>by omega
 | 0,i,n+1,hi,hn,hp=>by
   show ∃ r,T19 Ops.std a b _ some _=some r∧_
   unfold T19
   simp only [qai,qaa]
   rw [if_neg (by omega)]
   rw [List.take_of_length_le (by omega),List.take_of_length_le (by omega)] at hp
   exact ⟨true,rfl,fun _=>hp,fun _=>rfl⟩
 | t+1,i,n+1,hi,hn,hp=>by
   have ih:=qe8 a b hl h1 t (i+1) n (by omega) (by omega)
   show ∃ r,T19 Ops.std a b _ some _=some r∧_
   unfold T19
   simp only [qai,qak,qao,qaa,qaf,show IntKind.wrap IntKind.i64 ((i:Int)+1)=((i+1:Nat):Int) from qag (by omega)]
   rw [if_pos (by omega),if_pos (by omega),if_pos (by omega)]
   have ha:a.getD i (Ty.dflt ty56)=a[i]:=by rw [List.getD_eq_getElem?_getD,List.getElem?_eq_getElem (by omega)];rfl
   have hb:b.getD i (Ty.dflt ty56)=b[i]:=by rw [List.getD_eq_getElem?_getD,List.getElem?_eq_getElem (by omega)];rfl
   rw [ha,hb]
   have ht:∀ x y:Trm,(decide (x.1=y.1) && (decide (x.2.1=y.2.1) && (x.2.2.1 == y.2.2.1 && (x.2.2.2 == y.2.2.2 && true))))=decide (x=y):=fun x y=>by
    obtain ⟨a,b,c,d⟩:=x
    obtain ⟨a',b',c',d'⟩:=y
    rw [Bool.eq_iff_iff]
    simp only [Bool.and_eq_true,decide_eq_true_eq,beq_iff_eq,Prod.mk.injEq,and_true]
   rw [ht]
   by_cases he:a[i]=b[i]
   ·rw [decide_eq_true he]
    simp only [Bool.not_true,cond_false]
    refine ih ?_
    rw [List.take_succ_eq_append_getElem (by omega),List.take_succ_eq_append_getElem (by omega),hp,he]
   ·rw [decide_eq_false he]
    refine ⟨false,rfl,fun h=>(by cases h),fun h=>?_⟩
    subst h
    exact absurd rfl he
theorem same_ref8 (a b:List Trm) (h1:a.length≤100000):∃ r:Bool,M19 a b=some r∧(r=true↔a=b):=by
 show ∃ r,T19 Ops.std a b (R19 a b 1000000) some none=some r∧_
 unfold T19
 simp only [qao,qbt,qaa]
 by_cases hl:a.length=b.length
 ·rw [if_neg (by omega)]
  exact qe8 a b hl h1 a.length 0 1000000 (by omega) (by omega) rfl
 ·rw [if_pos (by omega)]
  exact ⟨false,rfl,fun h=>(by cases h),fun h=>absurd (congrArg List.length h) hl⟩
theorem qdx {a:List Trm} (h:shortE a) (k:Nat) (x:Trm) (h1:x.2.2.1.length≤20) (h2:x.2.2.2.length≤20):midE (a.set k x):=⟨by have:=h.1;simp;omega,fun t ht=>by
 rcases List.mem_or_eq_of_mem_set ht with ht | rfl
 ·exact h.mid.2 t ht
 ·exact ⟨h1,h2⟩⟩
theorem turned_ok8 {a:List Trm} (h:shortE a) (how at_ by_:Int):∃ b,M35 a how at_ by_=some b∧midE b:=by
 show ∃ b,T35 Ops.std M24 a how at_ by_ some=some b∧_
 unfold T35
 have h30:=h.1
 simp only [mt,List.nil_append]
 by_cases h0:a.length=0
 ·simp only [qay,qao,qaa,List.length_nil]
  rw [if_pos (by omega),if_pos (by omega)]
  exact ⟨_,rfl,h.mid⟩
 ·obtain ⟨k,hk,hpk⟩:=pickN at_ a.length (by omega) (by omega)
  obtain ⟨w,hw,hpw⟩:=pickN how 9 (by omega) (by omega)
  obtain ⟨b1,hb1,hp1⟩:=pickN by_ 19 (by omega) (by omega)
  obtain ⟨b2,hb2,hp2⟩:=pickN by_ 4 (by omega) (by omega)
  obtain ⟨b3,hb3,hp3⟩:=pickN by_ 3 (by omega) (by omega)
  have hpw':M24 how 9=some (w:Int):=hpw
  have hp1':M24 by_ 19=some (b1:Int):=hp1
  have hp2':M24 by_ 4=some (b2:Int):=hp2
  have hp3':M24 by_ 3=some (b3:Int):=hp3
  have hkw:IntKind.wrap IntKind.i64 ((k:Int)+1)=((k+1:Nat):Int):=qag (by omega)
  simp only [hpk,hpw',hp1',hp2',hp3',ob_s]
  simp only [hkw]
  simp only [qay,qao,qak,qaa,List.length_nil,qaf]
  rw [if_pos (by omega),if_neg (by omega)]
  obtain ⟨x,hx⟩:∃ x,a.getD k (Ty.dflt ty56)=x:=⟨_,rfl⟩
  have hxm:x.2.2.1.length≤8∧x.2.2.2.length≤8:=by
   refine h.2 x ?_
   rw [←hx,List.getD_eq_getElem?_getD,List.getElem?_eq_getElem hk]
   exact List.getElem_mem _
  simp only [hx]
  have i1:(0:Int)≤(k:Int)∧(k:Int)<(a.length:Int):=by omega
  have i2:(0:Int)≤(k:Int)∧(k:Int)<((a.length+1:Nat):Int):=by omega
  have i3:(0:Int)≤((k+1:Nat):Int)∧((k+1:Nat):Int)<((a.length+1:Nat):Int):=by omega
  have i4:(0:Int)≤(b2:Int)∧(b2:Int)<((4:Nat):Int):=by omega
  have i5:(0:Int)≤(b3:Int)∧(b3:Int)<((3:Nat):Int):=by omega
  simp only [if_pos i1,if_pos i2,if_pos i3,if_pos i4,if_pos i5]
  by_cases c0:(w:Int)=0
  ·rw [if_pos c0];exact ⟨_,rfl,qdx h k _ (by dsimp only;omega) (by dsimp only;omega)⟩
  rw [if_neg c0]
  by_cases c1:(w:Int)=1
  ·rw [if_pos c1];exact ⟨_,rfl,qdx h k _ (by dsimp only;omega) (by dsimp only;omega)⟩
  rw [if_neg c1]
  by_cases c2:(w:Int)=2
  ·rw [if_pos c2]
   refine ⟨_,rfl,qdx h k _ ?_ (by dsimp only;omega)⟩
   dsimp only
   match b2,hb2 with
   | 0,_=>decide
   | 1,_=>decide
   | 2,_=>decide
   | 3,_=>decide
  rw [if_neg c2]
  by_cases c3:(w:Int)=3
  ·rw [if_pos c3]
   refine ⟨_,rfl,qdx h k _ (by dsimp only;omega) ?_⟩
   dsimp only
   match b3,hb3 with
   | 0,_=>decide
   | 1,_=>decide
   | 2,_=>decide
  rw [if_neg c3]
  by_cases c4:(w:Int)=4
  ·rw [if_pos c4,if_pos (by simp only [List.length_take,List.length_drop];omega)]
   refine ⟨_,rfl,by simp only [List.length_append,List.length_take,List.length_drop];omega,fun t ht=>?_⟩
   rcases List.mem_append.1 ht with ht | ht
   ·exact h.mid.2 t (List.mem_of_mem_take ht)
   ·exact h.mid.2 t (List.mem_of_mem_drop (List.mem_of_mem_take ht))
  rw [if_neg c4]
  by_cases c5:(w:Int)=5
  ·rw [if_pos c5,if_pos (by simp only [List.length_cons,List.length_nil];omega)]
   refine ⟨_,rfl,by simp only [List.length_append,List.length_cons,List.length_nil];omega,fun t ht=>?_⟩
   rcases List.mem_append.1 ht with ht | ht
   ·exact h.mid.2 t ht
   ·simp only [List.mem_singleton] at ht
    subst ht
    exact ⟨by dsimp only;omega,by dsimp only;omega⟩
  rw [if_neg c5]
  exact ⟨_,rfl,h.mid⟩
theorem print_mid (e:List Trm) (he:midE e):∃ s,M20 e=some s∧M21 e=some s:=by
 have h1:=he.1
 cases hr:rightE e with
 | true=>
   obtain ⟨t,t1,rfl,t3⟩:=qeh hr
   exact ⟨_,print_prog t1 t3,print_ref t1 t3⟩
 | false=>exact ⟨_,print_no (by omega) hr,print_refno he.small (by omega) hr⟩
theorem bool_eq {a b:Bool} {P:Prop} (h1:a=true↔P) (h2:b=true↔P):a=b:=by
 rw [Bool.eq_iff_iff,h1,h2]
theorem plainExprRight (p0:List Int) (p1 p2 p3 p4 p5 p6:Int) (w0:Ty.wf ty22 p0) (w1:(Lit.int .i64 p1).wf=true) (w2:(Lit.int .i64 p2).wf=true) (w3:(Lit.int .i64 p3).wf=true) (w4:(Lit.int .i64 p4).wf=true) (w5:(Lit.int .i64 p5).wf=true) (w6:(Lit.int .i64 p6).wf=true):M9 p0 p1 p2 p3 p4 p5 p6=some true:=by
 have hM:M9 p0 p1 p2 p3 p4 p5 p6=T9 Ops.std M14 M16 M18 M35 M24 M28 M22 M36 M32 M37 M27 M19 M20 M21 M33 M34 p0 p1 p2 p3 p4 p5 p6 some:=rfl
 obtain ⟨s,hs,_⟩:=Expr_ok p0
 obtain ⟨y,hy,hp⟩:=parse_ref7 s
 have hsh:shortE y.2.2:=by
  rcases hy.good with ⟨_,t,t1,t2,t3⟩ | ⟨_,h1⟩
  ·rw [t2];exact Et.short t1 t3
  ·rw [h1];exact shortE_nil
 obtain ⟨b,hb,hm⟩:=turned_ok8 hsh p1 p2 p3
 obtain ⟨k4,_,h4⟩:=pickN p4 2000 (by omega) (by omega)
 obtain ⟨k5,_,h5⟩:=pickN p5 9 (by omega) (by omega)
 have h4':M24 p4 2000=some (k4:Int):=h4
 have h5':M24 p5 9=some (k5:Int):=h5
 obtain ⟨g1,g2,hg⟩:=ground_ok (k4:Int) (IntKind.wrap IntKind.i64 ((k5:Int)-4)) p6
 obtain ⟨v,v1,v2⟩:=eval_mid [] gG [(g1:Int),(g2:Int)] [(k4:Int),IntKind.wrap IntKind.i64 ((k5:Int)-4)] b hm
 obtain ⟨r1,a1,a2⟩:=same_prog8 y.2.2 b (by have:=hsh.1;omega)
 obtain ⟨r2,c1,c2⟩:=same_ref8 y.2.2 b (by have:=hsh.1;omega)
 obtain ⟨q,q1,q2⟩:=print_mid b hm
 obtain ⟨n,n1,n2⟩:=qem [] gG b hm
 have n3:=qe7 [] gG b hm
 have n4:knB gV gP [] b=n:=by unfold knB;rw [n1];rfl
 have hr:=bool_eq a2 c2
 subst hr
 rw [hM]
 unfold T9
 simp only [known8_ok,ob_s,Bool.not_true,cond_false,cond_true,hs,hp,hb,h4',h5',hg,qbb b (by have:=hm.1;omega),hm.rtR,n1,n3,n4,a1,c1,q1,q2,v1,v2,beq_self_eq_true,qao,decide_true]
end Go.Proofs.YtkmpkebaloejhaaDoor.Av
