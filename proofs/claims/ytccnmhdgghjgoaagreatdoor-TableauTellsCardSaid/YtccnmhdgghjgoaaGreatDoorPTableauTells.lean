/- The plain law of TableauTells: what its twin computes answers true. Conditions: none. -/
import Derived.Test.YtccnmhdgghjgoaaGreatDoorPTableauTellsb
set_option linter.unusedSimpArgs false
set_option linter.unusedVariables false
set_option maxRecDepth 100000
namespace Go.Proofs.YtccnmhdgghjgoaaGreatDoor.Av
open Go
def keepP (o:Option (List Vrb×List Pcs×List Trn×Int×Int)) (vs:List Vrb) (ps:List Pcs):Prop:=∃ vs' ps' ts' e x,o=some (vs',ps',ts',e,x)∧((vs'=[]∧ps'=[]∧ts'=[])∨(vs <+: vs'∧ps <+: ps'))
theorem keepP.v {o:Option (List Vrb×List Pcs×List Trn×Int×Int)} {vs l:List Vrb} {ps:List Pcs} (h:keepP o (vs++l) ps):keepP o vs ps:=by
 obtain ⟨a,b,c,e,x,h1,h2⟩:=h
 refine ⟨a,b,c,e,x,h1,?_⟩
 rcases h2 with h2 | ⟨h2,h3⟩
 ·exact .inl h2
 ·exact .inr ⟨(List.prefix_append vs l).trans h2,h3⟩
theorem keepP.p {o:Option (List Vrb×List Pcs×List Trn×Int×Int)} {vs:List Vrb} {ps l:List Pcs} (h:keepP o vs (ps++l)):keepP o vs ps:=by
 obtain ⟨a,b,c,e,x,h1,h2⟩:=h
 refine ⟨a,b,c,e,x,h1,?_⟩
 rcases h2 with h2 | ⟨h2,h3⟩
 ·exact .inl h2
 ·exact .inr ⟨h2,(List.prefix_append ps l).trans h3⟩
theorem pm_keep (s:List UInt8) (L:List (List UInt8)) (hL:L.length≤5001) (hk:okL 5000 L):∀ (t i n:Nat) (st:Int) (vs:List Vrb) (ps:List Pcs) (ts:List Trn),i+t=L.length→t<n→soFar vs ps ts i→
  keepP (pmR s n (.l0 st i L vs ps ts)) vs ps
 | t,i,0,st,vs,ps,ts,hi,hn,hs=>by omega
 | 0,i,n+1,st,vs,ps,ts,hi,hn,hs=>by
   have bad:keepP (some (([]:List Vrb),([]:List Pcs),([]:List Trn),(2:Int),(0:Int))) vs ps:=⟨_,_,_,_,_,rfl,.inl ⟨rfl,rfl,rfl⟩⟩
   have hM:smallM vs ps ts:=⟨by have:=hs.vl;omega,hs.v,by have:=hs.pl;omega,hs.p,by have:=hs.tl;omega,hs.t⟩
   show keepP (T47 Ops.std _ _ _ _ _ _ s _ some _) vs ps
   unfold T47
   simp only [qad,qaa]
   rw [if_neg (by omega)]
   obtain ⟨r,r1,r2⟩:=qbx hM
   rw [r1,ob_s]
   cases r with
   | false=>exact bad
   | true=>exact ⟨_,_,_,_,_,rfl,.inr ⟨List.prefix_refl _,List.prefix_refl _⟩⟩
 | t+1,i,n+1,st,vs,ps,ts,hi,hn,hs=>by
   have ih:=fun st vs ps ts=>pm_keep s L hL hk t (i+1) n st vs ps ts (by omega) (by omega)
   have hmono:soFar vs ps ts (i+1):=⟨by have:=hs.vl;omega,hs.v,by have:=hs.pl;omega,hs.p,by have:=hs.tl;omega,hs.t⟩
   have bad:∀ k:Int,keepP (some (([]:List Vrb),([]:List Pcs),([]:List Trn),(2:Int),k)) vs ps:=fun k=>⟨_,_,_,_,_,rfl,.inl ⟨rfl,rfl,rfl⟩⟩
   have hvl:=hs.vl
   have hpl:=hs.pl
   have htl:=hs.tl
   show keepP (T47 Ops.std _ _ _ _ _ _ s _ some _) vs ps
   unfold T47
   have hlen:(L.getD i (Ty.dflt ty9)).length≤5000:=hk.get i
   simp only [qad,qag,qal,qao,qaa,qab,mt,List.length_cons,List.length_nil,show IntKind.wrap IntKind.i64 ((i:Int)+1)=((i+1:Nat):Int) from qaf (by omega)]
   rw [if_pos (by omega),if_pos (by omega)]
   cases (L.getD i (Ty.dflt ty9)) == ([]:List UInt8) with
   | true=>exact ih st vs ps ts hmono
   | false=>
   simp only [cond_false]
   rw [if_pos (by omega)]
   obtain ⟨w,w1,w2,w3⟩:=words_ok (L.getD i (Ty.dflt ty9)) (by omega)
   rw [w1,ob_s]
   have w3':okL 60000 w:=fun x hx=>by have:=w3 x hx;omega
   by_cases h0:(0:Int)<((w.length:Nat):Int)
   ·rw [if_pos h0,if_pos (by omega)]
    cases (w.getD (Int.toNat 0) (Ty.dflt ty9)) == ([118,97,114]:List UInt8) with
    | true=>
      simp only [cond_true]
      obtain ⟨nm,lo,hi',ini,ok,v1,v2⟩:=qez (List.drop (Int.toNat 1) (List.take w.length w)) 60000 (fun x hx=>w3' x (List.mem_of_mem_take (List.mem_of_mem_drop hx)))
      rw [if_pos (by omega),v1,ob_s]
      dsimp only
      rw [if_pos (by omega)]
      cases ok with
      | false=>exact bad _
      | true=>
      simp only [Bool.not_true,cond_false]
      split
      ·exact bad _
      ·exact keepP.v (ih _ _ _ _ ⟨by simp;omega,qdp hs.v v2,by omega,hs.p,by omega,hs.t⟩)
    | false=>
    simp only [cond_false]
    cases (w.getD (Int.toNat 0) (Ty.dflt ty9)) == ([112,114,111,99]:List UInt8) with
    | true=>
      simp only [cond_true]
      by_cases h1:(1:Int)<((w.length:Nat):Int)
      ·rw [if_pos h1,if_pos (by omega),if_pos (by omega),if_pos (by omega),if_neg (fun h=>h h1)]
       split
       ·exact bad _
       ·exact keepP.p (ih _ _ _ _ ⟨by omega,hs.v,by simp;omega,qdp hs.p ⟨w3'.get (Int.toNat 1),by simp;omega,fun x hx=>w3' x (List.mem_of_mem_take (List.mem_of_mem_drop hx))⟩,by omega,hs.t⟩)
      ·rw [if_neg h1,if_pos h1];exact bad _
    | false=>
    simp only [cond_false]
    cases (w.getD (Int.toNat 0) (Ty.dflt ty9)) == ([116,114,97,110,115]:List UInt8) with
    | true=>
      simp only [cond_true]
      obtain ⟨r,r1,r2⟩:=skip_ok (L.getD i (Ty.dflt ty9)) (by omega) 1 (by omega)
      have r1':M90 (L.getD i (Ty.dflt ty9)) 1=some r:=r1
      obtain ⟨id,a,b,c,d,g,ef,ok,t1,t2⟩:=qc4 r (by omega)
      rw [if_pos (by omega),r1',ob_s,t1,ob_s]
      dsimp only
      rw [if_pos (by omega)]
      cases ok with
      | false=>exact bad _
      | true=>
      simp only [Bool.not_true,cond_false]
      split
      ·exact bad _
      ·exact ih _ _ _ _ ⟨by omega,hs.v,by omega,hs.p,by simp;omega,qdp hs.t t2⟩
    | false=>exact bad _
   ·rw [if_neg h0];exact bad _
def vnm (k:Nat):List UInt8:=([[120],[121],[122]]:List (List UInt8)).getD k []
def pnm (k:Nat):List UInt8:=([[112],[113],[114]]:List (List UInt8)).getD k []
def vrb (k:Nat) (c:Nat×Nat×Nat):Vrb:=(vnm k,([0,-1]:List Int).getD c.1 0,([1,2,3]:List Int).getD c.2.1 0,([0,1]:List Int).getD c.2.2 0)
def pcs (k:Nat) (d:Bool):Pcs:=(pnm k,[97]::[98]::[99]::if d then [[100]] else [])
noncomputable def ckV:Bool:=(List.range 3).all fun k=>(List.range 2).all fun a=>(List.range 3).all fun b=>(List.range 2).all fun c=>
 match M87 (vline k (a,b,c)) with
 | some w=>(w.getD 0 [] == ([118,97,114]:List UInt8)) && (decide (w.length=5) && decide (M88 (w.drop 1)=some ((vrb k (a,b,c)).1,(vrb k (a,b,c)).2.1,(vrb k (a,b,c)).2.2.1,(vrb k (a,b,c)).2.2.2,true)))
 | none=>false
theorem ckV_true:ckV=true:=by kernel_rfl
noncomputable def ckP:Bool:=(List.range 3).all fun k=>[true,false].all fun d=>
 match M87 (pline k d) with
 | some w=>(w.getD 0 [] == ([112,114,111,99]:List UInt8)) && (decide (2<w.length) && (decide (w.length<10) && ((w.getD 1 [] == pnm k) && (w.drop 2 == (pcs k d).2))))
 | none=>false
theorem ckP_true:ckP=true:=by kernel_rfl
theorem vline_words {k a b c:Nat} (hk:k<3) (ha:a<2) (hb:b<3) (hc:c<2):∃ w,M87 (vline k (a,b,c))=some w∧w.getD 0 []=([118,97,114]:List UInt8)∧w.length=5∧M88 (w.drop 1)=some ((vrb k (a,b,c)).1,(vrb k (a,b,c)).2.1,(vrb k (a,b,c)).2.2.1,(vrb k (a,b,c)).2.2.2,true):=by
 have h:=ckV_true
 unfold ckV at h
 have h1:=List.all_eq_true.1 h k (List.mem_range.2 hk)
 have h2:=List.all_eq_true.1 h1 a (List.mem_range.2 ha)
 have h3:=List.all_eq_true.1 h2 b (List.mem_range.2 hb)
 have h4:=List.all_eq_true.1 h3 c (List.mem_range.2 hc)
 cases hw:M87 (vline k (a,b,c)) with
 | none=>rw [hw] at h4;cases h4
 | some w=>
   rw [hw] at h4
   simp only [Bool.and_eq_true,beq_iff_eq,decide_eq_true_eq] at h4
   exact ⟨w,rfl,h4.1,h4.2.1,h4.2.2⟩
theorem pline_words {k:Nat} (hk:k<3) (d:Bool):∃ w,M87 (pline k d)=some w∧w.getD 0 []=([112,114,111,99]:List UInt8)∧2<w.length∧w.length<10∧w.getD 1 []=pnm k∧w.drop 2=(pcs k d).2:=by
 have h:=ckP_true
 unfold ckP at h
 have h1:=List.all_eq_true.1 h k (List.mem_range.2 hk)
 have h2:=List.all_eq_true.1 h1 d (by cases d<;>simp)
 cases hw:M87 (pline k d) with
 | none=>rw [hw] at h2;cases h2
 | some w=>
   rw [hw] at h2
   simp only [Bool.and_eq_true,beq_iff_eq,decide_eq_true_eq] at h2
   exact ⟨w,rfl,h2.1,h2.2.1,h2.2.2.1,h2.2.2.2.1,h2.2.2.2.2⟩
theorem vline_ne (k:Nat) (c:Nat×Nat×Nat):(vline k c == ([]:List UInt8))=false:=rfl
theorem pline_ne (k:Nat) (d:Bool):(pline k d == ([]:List UInt8))=false:=rfl
theorem pm_var (s:List UInt8) (L:List (List UInt8)) (i n:Nat) (hi:i<L.length) (hi2:i<100000) {k:Nat} {c:Nat×Nat×Nat} (hk:k<3) (hc:c.1<2∧c.2.1<3∧c.2.2<2) (hL:L.getD i (Ty.dflt ty9)=vline k c) (st:Int) (hst:st≤1) (vs:List Vrb) (ps:List Pcs) (ts:List Trn) (hv:vs.length≤10) :
  pmR s (n+1) (.l0 st i L vs ps ts)=pmR s n (.l0 1 ((i+1:Nat):Int) L (vs++[vrb k c]) ps ts):=by
 show T47 Ops.std _ _ _ _ _ _ s _ some _=_
 unfold T47
 simp only [qad,qag,qal,qao,qaa,qab,mt,List.length_cons,List.length_nil,hL,show IntKind.wrap IntKind.i64 ((i:Int)+1)=((i+1:Nat):Int) from qaf (by omega)]
 rw [if_pos (by omega),if_pos (by omega)]
 have hne:(vline k c == ([]:List UInt8))=false:=vline_ne k c
 rw [hne]
 simp only [cond_false]
 rw [if_pos (by omega)]
 obtain ⟨w,w1,w2,w3,w4⟩:=vline_words (k:=k) (a:=c.1) (b:=c.2.1) (c:=c.2.2) hk hc.1 hc.2.1 hc.2.2
 have w1':M87 (vline k c)=some w:=w1
 rw [w1',ob_s,if_pos (by omega),if_pos (by omega)]
 have w2':(w.getD (Int.toNat 0) (Ty.dflt ty9) == ([118,97,114]:List UInt8))=true:=by rw [show w.getD (Int.toNat 0) (Ty.dflt ty9)=[118,97,114] from w2];rfl
 rw [w2']
 simp only [cond_true]
 have w4':M88 (List.drop (Int.toNat 1) (List.take w.length w))=some ((vrb k c).1,(vrb k c).2.1,(vrb k c).2.2.1,(vrb k c).2.2.2,true):=by rw [List.take_length];exact w4
 rw [if_pos (by omega),w4',ob_s]
 dsimp only
 rw [if_pos (by omega)]
 simp only [Bool.not_true,cond_false]
 rw [if_neg (by omega)]
theorem pm_proc (s:List UInt8) (L:List (List UInt8)) (i n:Nat) (hi:i<L.length) (hi2:i<100000) {k:Nat} {d:Bool} (hk:k<3) (hL:L.getD i (Ty.dflt ty9)=pline k d) (st:Int) (hst:st≤2) (vs:List Vrb) (ps:List Pcs) (ts:List Trn) (hv:ps.length≤10) :
  pmR s (n+1) (.l0 st i L vs ps ts)=pmR s n (.l0 2 ((i+1:Nat):Int) L vs (ps++[pcs k d]) ts):=by
 show T47 Ops.std _ _ _ _ _ _ s _ some _=_
 unfold T47
 simp only [qad,qag,qal,qao,qaa,qab,mt,List.length_cons,List.length_nil,hL,show IntKind.wrap IntKind.i64 ((i:Int)+1)=((i+1:Nat):Int) from qaf (by omega)]
 rw [if_pos (by omega),if_pos (by omega)]
 have hne:(pline k d == ([]:List UInt8))=false:=pline_ne k d
 rw [hne]
 simp only [cond_false]
 rw [if_pos (by omega)]
 obtain ⟨w,w1,w2,w3,w4,w5,w6⟩:=pline_words hk d
 rw [w1,ob_s,if_pos (by omega),if_pos (by omega)]
 have w2':(w.getD (Int.toNat 0) (Ty.dflt ty9) == ([118,97,114]:List UInt8))=false:=by rw [show w.getD (Int.toNat 0) (Ty.dflt ty9)=[112,114,111,99] from w2];rfl
 have w2'':(w.getD (Int.toNat 0) (Ty.dflt ty9) == ([112,114,111,99]:List UInt8))=true:=by rw [show w.getD (Int.toNat 0) (Ty.dflt ty9)=[112,114,111,99] from w2];rfl
 rw [w2']
 simp only [cond_false]
 rw [w2'']
 simp only [cond_true]
 have w5':w.getD (Int.toNat 1) (Ty.dflt ty9)=pnm k:=w5
 have w6':List.drop (Int.toNat 2) (List.take w.length w)=(pcs k d).2:=by rw [List.take_length];exact w6
 have h1:(1:Int)<((w.length:Nat):Int):=by omega
 rw [if_pos h1,if_pos (by omega),if_pos (by omega),if_pos (by omega),if_neg (fun h=>h h1),w5',w6',if_neg (by omega)]
 rfl
abbrev TokS:=Int×List UInt8×Int
def strip (t:Tok):TokS:=(t.1,t.2.1,t.2.2.1)
def LexTo (s r:List UInt8) (ts:List TokS):Prop:=
 ∀ (f a:Nat) (out:List Tok),(s++r).length<f→∃ (f':Nat) (tks:List Tok),tks.map strip=ts∧r.length<f'∧lexGo f (s++r) a out=lexGo f' r (a+s.length) (out++tks)
theorem LexTo.nil (r:List UInt8):LexTo [] r []:=fun f a out h=>⟨f,[],rfl,h,by simp⟩
theorem LexTo.app {s1 s2 r:List UInt8} {t1 t2:List TokS} (h1:LexTo s1 (s2++r) t1) (h2:LexTo s2 r t2):LexTo (s1++s2) r (t1++t2):=fun f a out h=>by
 rw [List.append_assoc] at h
 obtain ⟨f1,k1,e1,g1,q1⟩:=h1 f a out h
 obtain ⟨f2,k2,e2,g2,q2⟩:=h2 f1 (a+s1.length) (out++k1) g1
 refine ⟨f2,k1++k2,by rw [List.map_append,e1,e2],g2,?_⟩
 rw [List.append_assoc,q1,q2,List.length_append,List.append_assoc,Nat.add_assoc]
theorem LexTo.blank {b:UInt8} (hb:blankP b=true) (r:List UInt8):LexTo [b] r []:=fun f a out h=>by
 obtain ⟨g,rfl⟩:∃ g,f=g+1:=⟨f-1,by omega⟩
 refine ⟨g,[],rfl,by simp at h;omega,?_⟩
 simp only [List.cons_append,List.nil_append,lexGo,hb,if_true,List.length_cons,List.length_nil,List.append_nil]
theorem LexTo.tok {b:UInt8} {s r:List UInt8} {k n:Int} (ht:tokS (b::(s++r))=some (k,b::s,n)) (hb:blankP b=false):LexTo (b::s) r [(k,b::s,n)]:=fun f a out h=>by
 obtain ⟨g,rfl⟩:∃ g,f=g+1:=⟨f-1,by omega⟩
 refine ⟨g,[(k,b::s,n,(a:Int))],rfl,by simp at h;omega,?_⟩
 have hd:List.drop (b::s).length (b::(s++r))=r:=by
  rw [←List.cons_append,List.drop_left]
 simp only [List.cons_append,lexGo,hb,ht,Bool.false_eq_true,if_false,hd]
theorem qe8 {b:UInt8} {r w:List UInt8} (h1:digitP' b=false) (h2:lowerP b=false) (h3:letterP b=false) (hs:signS (b::r)=w) (hw:w≠[]):tokS (b::r)=some (4,w,0):=by
 simp only [tokS,h1,h2,h3,hs,hw,Bool.false_eq_true,if_false]
theorem signS_two {p:List UInt8} {r:List UInt8} (h:p=[60,61]∨p=[62,61]∨p=[61,61]∨p=[33,61]∨p=[38,38]∨p=[124,124]∨p=[45,62]):signS (p++r)=p:=by
 rcases h with h | h | h | h | h | h | h<;>subst h<;>simp [signS,twos]
theorem qf3 {p:List UInt8} (r:List UInt8) (h:p=[60,61]∨p=[62,61]∨p=[61,61]∨p=[33,61]∨p=[38,38]∨p=[124,124]∨p=[45,62]):LexTo p r [(4,p,0)]:=by
 have hs:=signS_two (r:=r) h
 rcases h with h | h | h | h | h | h | h<;>subst h<;>exact LexTo.tok (qe8 rfl rfl rfl hs (by simp)) rfl
theorem signS_one {c:UInt8} {r:List UInt8} (h:c=40∨c=41∨c=91∨c=93∨c=64):signS (c::r)=[c]:=by
 have h2:twos.find? (fun p=>decide (1<(c::r).length) && ((c::r).take 2 == p))=none:=by
  rw [List.find?_eq_none]
  intro p hp
  simp only [twos,List.mem_cons,List.not_mem_nil,or_false] at hp
  rcases h with h | h | h | h | h<;>subst h<;>rcases hp with hp | hp | hp | hp | hp | hp | hp<;>subst hp<;>simp
 unfold signS
 rw [h2]
 rcases h with h | h | h | h | h<;>subst h<;>simp [ones]
theorem lx_one {c:UInt8} (r:List UInt8) (h:c=40∨c=41∨c=91∨c=93∨c=64):LexTo [c] r [(4,[c],0)]:=by
 have hs:=signS_one (r:=r) h
 rcases h with h | h | h | h | h<;>subst h<;>exact LexTo.tok (s:=[]) (qe8 rfl rfl rfl hs (by simp)) rfl
theorem signS_oneq {c d:UInt8} {r:List UInt8} (h:c=33∨c=60∨c=62) (hd:d≠61):signS (c::d::r)=[c]:=by
 have h2:twos.find? (fun p=>decide (1<(c::d::r).length) && ((c::d::r).take 2 == p))=none:=by
  rw [List.find?_eq_none]
  intro p hp
  simp only [twos,List.mem_cons,List.not_mem_nil,or_false] at hp
  rcases h with h | h | h<;>subst h<;>rcases hp with hp | hp | hp | hp | hp | hp | hp<;>subst hp<;>simp [hd]
 unfold signS
 rw [h2]
 rcases h with h | h | h<;>subst h<;>simp [ones]
theorem lx_oneq {c d:UInt8} (r:List UInt8) (h:c=33∨c=60∨c=62) (hd:d≠61):LexTo [c] (d::r) [(4,[c],0)]:=by
 have hs:=signS_oneq (r:=r) h hd
 rcases h with h | h | h<;>subst h<;>exact LexTo.tok (s:=[]) (qe8 rfl rfl rfl hs (by simp)) rfl
theorem qcf {c:UInt8} (r:List UInt8) (h:c=88∨c=70∨c=71∨c=85∨c=82):LexTo [c] r [(3,[c],0)]:=by
 rcases h with h | h | h | h | h<;>subst h<;>exact LexTo.tok (s:=[]) rfl rfl
def noWord (r:List UInt8):Prop:=∀ (b:UInt8) (q:List UInt8),r=b::q→wordP b=false
theorem noWord.nil:noWord []:=fun b q h=>by cases h
theorem noWord.cons {b:UInt8} {q:List UInt8} (h:wordP b=false):noWord (b::q):=fun c p e=>by cases e;exact h
theorem tw_app {p:UInt8→Bool}:∀ (w r:List UInt8),w.all p=true→(∀ b q,r=b::q→p b=false)→(w++r).takeWhile p=w
 | [],[],_,_=>rfl
 | [],b::q,_,h=>by rw [List.nil_append,List.takeWhile_cons,h b q rfl];rfl
 | a::w,r,ha,h=>by
   simp only [List.all_cons,Bool.and_eq_true] at ha
   rw [List.cons_append,List.takeWhile_cons,ha.1,if_pos rfl,tw_app w r ha.2 h]
theorem lx_word {b:UInt8} {w:List UInt8} (r:List UInt8) (hb:lowerP b=true) (hn:digitP' b=false) (hk:blankP b=false) (hw:w.all wordP=true) (hl:w.length<8) (hr:noWord r):LexTo (b::w) r [(2,b::w,0)]:=by
 refine LexTo.tok ?_ hk
 have ht:(b::(w++r)).takeWhile wordP=b::w:=by
  rw [←List.cons_append]
  exact tw_app (b::w) r (by rw [List.all_cons,hw];simp [wordP,hb]) hr
 simp only [tokS,hn,hb,ht,Bool.false_eq_true,if_false,if_true,List.length_cons]
 rw [if_pos (by omega)]
theorem lx_num {b:UInt8} (r:List UInt8) (hb:digitP' b=true) (hk:blankP b=false) (hr:noWord r):LexTo [b] r [(1,[b],valW [b])]:=by
 refine LexTo.tok (s:=[]) ?_ hk
 have ht:(b::([]++r)).takeWhile digitP'=[b]:=by
  have:=tw_app (p:=digitP') [b] r (by simp [hb]) (fun c q e=>by
   have:=hr c q e
   simp only [wordP,Bool.or_eq_false_iff] at this
   exact this.2)
  simpa using this
 simp only [tokS,hb,ht,if_true]
 rfl
inductive Sen where
 | con (b:Bool)
 | atm (i:Nat)
 | una (k:Int) (s:Sen)
 | bra (s:Sen)
 | bin (k:Int) (a b:Sen)
def unaW (k:Int):List UInt8:=if k=4 then [33] else if k=8 then [88,32] else if k=11 then [70,32] else [71,32]
def unaT (k:Int):TokS:=if k=4 then (4,[33],0) else if k=8 then (3,[88],0) else if k=11 then (3,[70],0) else (3,[71],0)
def binW (k:Int):List UInt8:=if k=5 then [32,38,38,32] else if k=6 then [32,124,124,32] else if k=7 then [32,45,62,32] else if k=9 then [32,85,32] else [32,82,32]
def binT (k:Int):TokS:=if k=5 then (4,[38,38],0) else if k=6 then (4,[124,124],0) else if k=7 then (4,[45,62],0) else if k=9 then (3,[85],0) else (3,[82],0)
def conW (b:Bool):List UInt8:=if b then [116,114,117,101] else [102,97,108,115,101]
def atmsW:List (List UInt8):=[[91,120,61,61,49,93],[91,112,64,97,93],[91,121,60,49,93],[91,113,64,98,38,38,120,62,48,93],[91,120,61,61,121,93],[91,112,64,98,93]]
def atmsT:List (List TokS):=[[(2,[120],0),(4,[61,61],0),(1,[49],1),(4,[93],0)],[(2,[112],0),(4,[64],0),(2,[97],0),(4,[93],0)],[(2,[121],0),(4,[60],0),(1,[49],1),(4,[93],0)],
 [(2,[113],0),(4,[64],0),(2,[98],0),(4,[38,38],0),(2,[120],0),(4,[62],0),(1,[48],0),(4,[93],0)],[(2,[120],0),(4,[61,61],0),(2,[121],0),(4,[93],0)],[(2,[112],0),(4,[64],0),(2,[98],0),(4,[93],0)]]
def Sen.text:Sen→List UInt8
 | .con b=>conW b
 | .atm i=>atmsW.getD i []
 | .una k s=>unaW k++s.text
 | .bra s=>[40]++(s.text++[41])
 | .bin k a b=>a.text++(binW k++b.text)
def Sen.toks:Sen→List TokS
 | .con b=>[(2,conW b,0)]
 | .atm i=>(4,[91],0)::atmsT.getD i []
 | .una k s=>unaT k::s.toks
 | .bra s=>(4,[40],0)::(s.toks++[(4,[41],0)])
 | .bin k a b=>a.toks++(binT k::b.toks)
def lvK (k:Int):Nat:=if k=7 then 1 else if k=6 then 2 else if k=5 then 3 else 4
def Sen.lv:Sen→Nat
 | .bin k _ _=>lvK k
 | _=>5
def unaK (k:Int):Prop:=k=4∨k=8∨k=11∨k=12
def binK (k:Int):Prop:=k=5∨k=6∨k=7∨k=9∨k=10
def Sen.ok:Sen→Prop
 | .con _=>True
 | .atm i=>i<6
 | .una k s=>unaK k∧s.lv=5∧s.ok
 | .bra s=>s.ok
 | .bin k a b=>binK k∧lvK k<a.lv∧lvK k≤b.lv∧(lvK k=b.lv→lvK k=1∨lvK k=4)∧a.ok∧b.ok
theorem Sen.head:∀ s:Sen,s.ok→∃ (d:UInt8) (q:List UInt8),s.text=d::q∧d≠61
 | .con b,_=>by cases b<;>exact ⟨_,_,rfl,by decide⟩
 | .atm i,h=>by
   have h:i<6:=h
   match i,h with
   | 0,_ | 1,_ | 2,_ | 3,_ | 4,_ | 5,_=>exact ⟨_,_,rfl,by decide⟩
 | .una k s,h=>by
   obtain ⟨h1,_,_⟩:=h
   rcases h1 with rfl | rfl | rfl | rfl<;>exact ⟨_,_,rfl,by decide⟩
 | .bra s,_=>⟨_,_,rfl,by decide⟩
 | .bin k a b,h=>by
   obtain ⟨d,q,e,hd⟩:=a.head h.2.2.2.2.1
   exact ⟨d,q++(binW k++b.text),by simp only [Sen.text,e,List.cons_append],hd⟩
theorem lx_una {k:Int} (hk:unaK k) {s r:List UInt8} (hs:∃ (d:UInt8) (q:List UInt8),s=d::q∧d≠61):LexTo (unaW k) (s++r) [unaT k]:=by
 obtain ⟨d,q,rfl,hd⟩:=hs
 rcases hk with rfl | rfl | rfl | rfl
 ·exact lx_oneq (q++r) (.inl rfl) hd
 ·exact (qcf _ (.inl rfl)).app (LexTo.blank (b:=32) rfl _)
 ·exact (qcf _ (.inr (.inl rfl))).app (LexTo.blank (b:=32) rfl _)
 ·exact (qcf _ (.inr (.inr (.inl rfl)))).app (LexTo.blank (b:=32) rfl _)
theorem lx_bin {k:Int} (hk:binK k) (r:List UInt8):LexTo (binW k) r [binT k]:=by
 have bl:=fun r=>LexTo.blank (b:=32) rfl r
 rcases hk with rfl | rfl | rfl | rfl | rfl
 ·exact (bl _).app ((qf3 (p:=[38,38]) _ (by simp)).app (bl _))
 ·exact (bl _).app ((qf3 (p:=[124,124]) _ (by simp)).app (bl _))
 ·exact (bl _).app ((qf3 (p:=[45,62]) _ (by simp)).app (bl _))
 ·exact (bl _).app ((qcf (c:=85) _ (by simp)).app (bl _))
 ·exact (bl _).app ((qcf (c:=82) _ (by simp)).app (bl _))
theorem noWord.bin {k:Int} (hk:binK k) (r:List UInt8):noWord (binW k++r):=by
 rcases hk with rfl | rfl | rfl | rfl | rfl<;>exact noWord.cons rfl
theorem lx_con (b:Bool) {r:List UInt8} (hr:noWord r):LexTo (conW b) r [(2,conW b,0)]:=by
 cases b
 ·exact lx_word r rfl rfl rfl rfl (by decide) hr
 ·exact lx_word r rfl rfl rfl rfl (by decide) hr
theorem lx_w (c:UInt8) (r:List UInt8) (h:c=120∨c=121∨c=112∨c=113∨c=97∨c=98) (hr:noWord r):LexTo [c] r [(2,[c],0)]:=by
 rcases h with rfl | rfl | rfl | rfl | rfl | rfl<;>exact lx_word r rfl rfl rfl rfl (by decide) hr
theorem lx_atm {i:Nat} (hi:i<6) (r:List UInt8):LexTo (atmsW.getD i []) r ((4,[91],0)::atmsT.getD i []):=by
 have op:=fun r=>lx_one (c:=91) r (by simp)
 have cl:=lx_one (c:=93) r (by simp)
 have at_:=fun r=>lx_one (c:=64) r (by simp)
 match i,hi with
 | 0,_=>exact (op _).app ((lx_w 120 _ (by simp) (noWord.cons rfl)).app ((qf3 (p:=[61,61]) _ (by simp)).app ((lx_num (b:=49) _ rfl rfl (noWord.cons rfl)).app cl)))
 | 1,_=>exact (op _).app ((lx_w 112 _ (by simp) (noWord.cons rfl)).app ((at_ _).app ((lx_w 97 _ (by simp) (noWord.cons rfl)).app cl)))
 | 2,_=>exact (op _).app ((lx_w 121 _ (by simp) (noWord.cons rfl)).app ((lx_oneq (c:=60) _ (by simp) (by decide)).app ((lx_num (b:=49) _ rfl rfl (noWord.cons rfl)).app cl)))
 | 3,_=>exact (op _).app ((lx_w 113 _ (by simp) (noWord.cons rfl)).app ((at_ _).app ((lx_w 98 _ (by simp) (noWord.cons rfl)).app ((qf3 (p:=[38,38]) _ (by simp)).app ((lx_w 120 _ (by simp) (noWord.cons rfl)).app ((lx_oneq (c:=62) _ (by simp) (by decide)).app ((lx_num (b:=48) _ rfl rfl (noWord.cons rfl)).app cl)))))))
 | 4,_=>exact (op _).app ((lx_w 120 _ (by simp) (noWord.cons rfl)).app ((qf3 (p:=[61,61]) _ (by simp)).app ((lx_w 121 _ (by simp) (noWord.cons rfl)).app cl)))
 | 5,_=>exact (op _).app ((lx_w 112 _ (by simp) (noWord.cons rfl)).app ((at_ _).app ((lx_w 98 _ (by simp) (noWord.cons rfl)).app cl)))
theorem Sen.lex:∀ (s:Sen),s.ok→∀ r,noWord r→LexTo s.text r s.toks
 | .con b,_,r,hr=>lx_con b hr
 | .atm i,h,r,_=>lx_atm h r
 | .una k s,h,r,hr=>(lx_una h.1 (s.head h.2.2)).app (s.lex h.2.2 r hr)
 | .bra s,h,r,hr=>(lx_one (c:=40) _ (by simp)).app ((s.lex h _ (noWord.cons rfl)).app (lx_one (c:=41) r (by simp)))
 | .bin k a b,h,r,hr=>by
   obtain ⟨hk,_,_,_,ha,hb⟩:=h
   refine (a.lex ha _ ?_).app ((lx_bin hk _).app (b.lex hb r hr))
   rw [List.append_assoc]
   exact noWord.bin hk _
theorem Sen.lexS (s:Sen) (h:s.ok) (hl:s.text.length≤60000):∃ (tks:List Tok) (x:Int),lexS s.text=(0,0,tks++[(5,[],0,x)])∧tks.map strip=s.toks:=by
 obtain ⟨f',tks,h1,h2,h3⟩:=s.lex h [] noWord.nil (s.text.length+1) 0 [] (by simp)
 rw [List.append_nil] at h3
 obtain ⟨g,rfl⟩:∃ g,f'=g+1:=⟨f'-1,by simp at h2;omega⟩
 refine ⟨tks,((0+s.text.length:Nat):Int),?_,h1⟩
 unfold Av.lexS
 rw [if_neg (by omega),h3]
 rfl
abbrev tk0 (l:List Tok) (a:Nat):Tok:=l.getD a (Ty.dflt ty130)
abbrev tkAt (l:List Tok) (a:Nat):TokS:=strip (tk0 l a)
theorem tk_1 {l:List Tok} {a:Nat} {k n:Int} {w:List UInt8} (h:tkAt l a=(k,w,n)):(tk0 l a).1=k:=congrArg (·.1) h
theorem tk_2 {l:List Tok} {a:Nat} {k n:Int} {w:List UInt8} (h:tkAt l a=(k,w,n)):(tk0 l a).2.1=w:=congrArg (·.2.1) h
theorem tk_3 {l:List Tok} {a:Nat} {k n:Int} {w:List UInt8} (h:tkAt l a=(k,w,n)):(tk0 l a).2.2.1=n:=congrArg (·.2.2) h
def Pre:List TokS→List Tok→Nat→Prop
 | [],_,_=>True
 | t::ts,l,a=>(a<l.length∧tkAt l a=t)∧Pre ts l (a+1)
theorem Pre.app:∀ (s t:List TokS) (l:List Tok) (a:Nat),Pre (s++t) l a↔Pre s l a∧Pre t l (a+s.length)
 | [],t,l,a=>by simp [Pre]
 | x::s,t,l,a=>by
   simp only [List.cons_append,Pre,Pre.app s t l (a+1),List.length_cons,and_assoc]
   rw [show a+1+s.length=a+(s.length+1) by omega]
theorem Pre.of:∀ (tks:List Tok) (pre post:List Tok),Pre (tks.map strip) (pre++(tks++post)) pre.length
 | [],_,_=>trivial
 | t::tks,pre,post=>by
   have h:=Pre.of tks (pre++[t]) post
   simp only [List.length_append,List.length_cons,List.length_nil,List.append_assoc,List.cons_append,List.nil_append] at h
   refine ⟨⟨by simp,?_⟩,h⟩
   show strip ((pre++(t::(tks++post))).getD pre.length _)=strip t
   rw [List.getD_eq_getElem?_getD,List.getElem?_append_right (Nat.le_refl _),Nat.sub_self]
   rfl
theorem is_eq (w:List UInt8) (l:List Tok) (a:Nat) (ha:a<l.length) (bad:Int) (out:List Trm):M193 w l a bad out=some (decide ((tk0 l a).1=4) && ((tk0 l a).2.1 == w),l,(a:Int),bad,out):=by
 show T193 Ops.std w l a bad out some=_
 unfold T193
 simp only [qag,qak,qaa,qab]
 rw [if_pos (by omega)]
 by_cases h:(l.getD a (Ty.dflt ty130)).1=4
 ·rw [if_pos h,if_pos (by omega),decide_eq_true h,Bool.true_and]
 ·rw [if_neg h,decide_eq_false h,Bool.false_and]
def Ex (l:List Tok) (n c a b:Nat) (e:List Trm):Prop:=∀ (d:Nat) (out:List Trm),c≤d→out.length+1000*c≤1000000000→(Rec186 d).1 (n:Nat) l a (-1) out=some (l,(b:Int),-1,out++e)
def Eu (l:List Tok) (c a b:Nat) (e:List Trm):Prop:=∀ (d:Nat) (out:List Trm),c≤d→out.length+1000*c≤1000000000→(Rec186 d).2 l a (-1) out=some (l,(b:Int),-1,out++e)
theorem eu_of {l:List Tok} {a b:Nat} {e:List Trm} (ha:a<l.length) (hk:(tk0 l a).1≠4) (h:∀ (d:Nat) (op:Int) (out:List Trm),op=0→out.length≤1000000000→∀ (p0:List Tok) (p1 p2:Int) (p3:List Trm) (m:Nat),unR d p0 p1 p2 p3 (m+1) (.l1006 op l a (-1) out)=some (l,(b:Int),-1,out++e)):Eu l 1 a b e:=fun d out hd ho=>by
 obtain ⟨g,rfl⟩:∃ g,d=g+1:=⟨d-1,by omega⟩
 show T190 Ops.std M193 (Rec186 g).2 M194 (Rec186 g).1 l a (-1) out (unR g l a (-1) out 1000000) some none=_
 unfold T190
 simp only [qas,qaa]
 have i1:∀ w,M193 w l a (-1) out=some (false,l,(a:Int),-1,out):=fun w=>by
  rw [is_eq w l a ha,decide_eq_false hk,Bool.false_and]
 rw [if_neg (by omega),i1,ob_s]
 dsimp only
 simp only [cond_false]
 rw [i1,ob_s]
 dsimp only
 simp only [cond_false]
 exact h g 0 out rfl (by omega) l a (-1) out 999999
theorem eu_num {l:List Tok} {a:Nat} {w:List UInt8} {n:Int} (ha:a<l.length) (ht:tkAt l a=(1,w,n)) (hll:l.length<100000):Eu l 1 a (a+1) [(1,n,[],[])]:=
 eu_of ha (by rw [tk_1 ht];decide) fun d op out h0 ho p0 p1 p2 p3 m=>by
  show T190 Ops.std _ _ _ _ p0 p1 p2 p3 _ some _=_
  unfold T190
  have hw1:IntKind.wrap IntKind.i64 ((a:Int)+1)=((a+1:Nat):Int):=qaf (by omega)
  simp only [qad,qas,qag,qak,qal,qaa,qao,qab,mt,List.length_cons,List.length_nil,hw1]
  rw [if_neg (fun h=>h h0),if_pos (by omega),if_pos (tk_1 ht),if_pos (by omega)]
  show some (l,_,_,out++[(1,(tk0 l a).2.2.1,[],[])])=_
  rw [tk_3 ht]
theorem eu_var {l:List Tok} {a:Nat} {w:List UInt8} (ha:a+1<l.length) (ht:tkAt l a=(2,w,0)) (hn:((tk0 l (a+1)).1=4→(tk0 l (a+1)).2.1≠[64])) (hll:l.length<100000):Eu l 1 a (a+1) [(2,0,w,[])]:=
 eu_of (by omega) (by rw [tk_1 ht];decide) fun d op out h0 ho p0 p1 p2 p3 m=>by
  show T190 Ops.std _ _ _ _ p0 p1 p2 p3 _ some _=_
  unfold T190
  have hw1:IntKind.wrap IntKind.i64 ((a:Int)+1)=((a+1:Nat):Int):=qaf (by omega)
  simp only [qad,qas,qag,qak,qal,qaa,qao,qab,mt,List.length_cons,List.length_nil,hw1]
  have i1:M193 [64] l ((a+1:Nat):Int) (-1) out=some (false,l,((a+1:Nat):Int),-1,out):=by
   rw [is_eq _ l (a+1) ha]
   by_cases h:(tk0 l (a+1)).1=4
   ·have:=hn h
    rw [decide_eq_true h,Bool.true_and,beq_false_of_ne this]
   ·rw [decide_eq_false h,Bool.false_and]
  rw [if_neg (fun h=>h h0),if_pos (by omega),if_neg (by rw [tk_1 ht];decide),if_pos (tk_1 ht),i1,ob_s]
  dsimp only
  simp only [cond_false]
  rw [if_pos (by omega)]
  show some (l,_,_,out++[(2,0,(tk0 l a).2.1,[])])=_
  rw [tk_2 ht]
theorem eu_at {l:List Tok} {a:Nat} {w v:List UInt8} (ha:a+2<l.length) (ht:tkAt l a=(2,w,0)) (h1:tkAt l (a+1)=(4,[64],0)) (h2:tkAt l (a+2)=(2,v,0)) (hll:l.length<100000):Eu l 1 a (a+3) [(3,0,w,v)]:=
 eu_of (by omega) (by rw [tk_1 ht];decide) fun d op out h0 ho p0 p1 p2 p3 m=>by
  show T190 Ops.std _ _ _ _ p0 p1 p2 p3 _ some _=_
  unfold T190
  have hw1:IntKind.wrap IntKind.i64 ((a:Int)+1)=((a+1:Nat):Int):=qaf (by omega)
  simp only [qad,qas,qag,qak,qal,qaa,qao,qab,mt,List.length_cons,List.length_nil,hw1]
  have i1:M193 [64] l ((a+1:Nat):Int) (-1) out=some (true,l,((a+1:Nat):Int),-1,out):=by
   rw [is_eq _ l (a+1) (by omega),tk_1 h1,tk_2 h1]
   rfl
  rw [if_neg (fun h=>h h0),if_pos (by omega),if_neg (by rw [tk_1 ht];decide),if_pos (tk_1 ht),i1,ob_s]
  dsimp only
  simp only [cond_true]
  have hw2:IntKind.wrap IntKind.i64 (((a+1:Nat):Int)+1)=((a+2:Nat):Int):=qaf (by omega)
  have hw3:IntKind.wrap IntKind.i64 (((a+2:Nat):Int)+1)=((a+3:Nat):Int):=qaf (by omega)
  simp only [hw2,hw3,qab]
  have hin:(0:Int)≤((a+2:Nat):Int)∧((a+2:Nat):Int)<(l.length:Int):=by omega
  simp only [if_pos hin]
  rw [if_neg (fun h=>h (tk_1 h2)),if_pos (by omega)]
  show some (l,_,_,out++[(3,0,(tk0 l a).2.1,(tk0 l (a+2)).2.1)])=_
  rw [tk_2 ht,tk_2 h2]
def binE (t:TokS) (lv:Int) (op:Int):Prop:=(fun x:Int=>M191 t.1 t.2.1 t.2.2 x lv)=fun _=>some op
theorem binE.at {l:List Tok} {a:Nat} {lv op:Int} (h:binE (tkAt l a) lv op):M191 (l.getD a (Ty.dflt ty130)).1 (l.getD a (Ty.dflt ty130)).2.1 (l.getD a (Ty.dflt ty130)).2.2.1 (l.getD a (Ty.dflt ty130)).2.2.2 lv=some op:=congrFun h _
theorem ex_stop {l:List Tok} {n b:Nat} (hb:b<l.length) (h0:binE (tkAt l b) n 0) (d:Nat) (p1:List Tok) (p2 p3:Int) (p4:List Trm) (m:Nat) (out:List Trm):lvR d n p1 p2 p3 p4 (m+1) (.l0 l b (-1) out)=some (l,(b:Int),-1,out):=by
 show T186 Ops.std _ _ _ n p1 p2 p3 p4 _ some _=_
 unfold T186
 simp only [qad,qag,qak,qal,qaa,qab,mt,List.length_cons,List.length_nil]
 rw [if_pos (by omega),if_pos (by omega),h0.at,ob_s,if_pos rfl]
theorem ex_six {l:List Tok} {c a b:Nat} {e:List Trm} (h:Eu l c a b e):Ex l 6 (c+1) a b e:=fun d out hd ho=>by
 obtain ⟨g,rfl⟩:∃ g,d=g+1:=⟨d-1,by omega⟩
 show T186 Ops.std (Rec186 g).2 (Rec186 g).1 M191 (6:Nat) l a (-1) out (lvR g (6:Nat) l a (-1) out 1000000) some none=_
 unfold T186
 simp only [qad,qaa]
 rw [if_pos (by omega),h g out (by omega) (by omega),ob_s]
theorem ex_first {l:List Tok} {n c a b:Nat} {e:List Trm} (hn:n≤5) (h:Ex l (n+1) c a b e) (d:Nat) (out:List Trm) (hd:c≤d) (ho:out.length+1000*c≤1000000000):(Rec186 (d+1)).1 (n:Nat) l a (-1) out=lvR d n l a (-1) out 1000000 (.l0 l b (-1) (out++e)):=by
 show T186 Ops.std (Rec186 d).2 (Rec186 d).1 M191 n l a (-1) out (lvR d n l a (-1) out 1000000) some none=_
 unfold T186
 simp only [qad,qaa]
 rw [if_neg (by omega),show IntKind.wrap IntKind.i64 ((n:Int)+1)=((n+1:Nat):Int) from qaf (by omega),h d out hd ho,ob_s]
theorem qfd {l:List Tok} {n c a b:Nat} {e:List Trm} (hn:n≤5) (h:Ex l (n+1) c a b e) (hb:b<l.length) (h0:binE (tkAt l b) n 0):Ex l n (c+1) a b e:=fun d out hd ho=>by
 obtain ⟨g,rfl⟩:∃ g,d=g+1:=⟨d-1,by omega⟩
 rw [ex_first hn h g out (by omega) (by omega)]
 exact ex_stop hb h0 g l a (-1) out 999999 _
theorem ex_bin {l:List Tok} {n c c2 a m b:Nat} {e e2:List Trm} {op:Int} (hn:n≤5) (h:Ex l (n+1) c a m e) (he:e.length≤1000) (hm:m<l.length) (h1:binE (tkAt l m) n op) (hop:op≠0) (h2:Ex l (n+1) c2 (m+1) b e2) (he2:e2.length≤1000) (hb:b<l.length) (h0:n=3∨binE (tkAt l b) n 0) (hll:l.length<100000) (hc:c2≤c):Ex l n (c+1) a b (e++e2++[(op,0,[],[])]):=fun d out hd ho=>by
 obtain ⟨g,rfl⟩:∃ g,d=g+1:=⟨d-1,by omega⟩
 rw [ex_first hn h g out (by omega) (by omega)]
 show T186 Ops.std _ _ _ n l a (-1) out (lvR g n l a (-1) out 999999) some _=_
 unfold T186
 simp only [qad,qag,qak,qal,qaa,qab,mt,List.length_cons,List.length_nil]
 have hw:IntKind.wrap IntKind.i64 ((n:Int)+1)=((n+1:Nat):Int):=qaf (by omega)
 have hw2:IntKind.wrap IntKind.i64 ((m:Int)+1)=((m+1:Nat):Int):=qaf (by omega)
 rw [if_pos (by omega),if_pos (by omega),h1.at,ob_s,if_neg hop,hw,hw2,h2 g (out++e) (by omega) (by simp;omega),ob_s]
 dsimp only
 rw [if_pos (by simp only [List.length_append];omega)]
 by_cases h3:(n:Int)=3
 ·rw [if_pos h3];simp only [List.append_assoc]
 ·rw [if_neg h3]
  rcases h0 with h0 | h0
  ·omega
  ·have:=ex_stop hb h0 g l a (-1) out 999998 (out++e++e2++[(op,0,[],[])])
   simp only [List.append_assoc] at this ⊢
   exact this
theorem qdr {l:List Tok} {c a b:Nat} {e:List Trm} (h:Ex l 1 c a b e) (hc:c≤1000) (he:e.length≤30) (hab:a<l.length):M177 l a=some ((b:Int),0,e):=by
 show T177 Ops.std M186 l a some=_
 unfold T177
 simp only [qas,qad,qaa]
 have f1':M186 1 l (a:Int) (-1) []=some (l,(b:Int),-1,e):=h 1000000 [] (by omega) (by simp;omega)
 rw [f1',ob_s]
 dsimp only
 rw [if_neg (by omega),if_neg (by omega)]
theorem qf4:binE (4,[61,61],0) 5 0∧binE (4,[61,61],0) 4 0∧binE (4,[61,61],0) 3 13:=⟨by unfold binE;kernel_rfl,by unfold binE;kernel_rfl,by unfold binE;kernel_rfl⟩
theorem be_lt:binE (4,[60],0) 5 0∧binE (4,[60],0) 4 0∧binE (4,[60],0) 3 9:=⟨by unfold binE;kernel_rfl,by unfold binE;kernel_rfl,by unfold binE;kernel_rfl⟩
theorem be_gt:binE (4,[62],0) 5 0∧binE (4,[62],0) 4 0∧binE (4,[62],0) 3 11:=⟨by unfold binE;kernel_rfl,by unfold binE;kernel_rfl,by unfold binE;kernel_rfl⟩
theorem be_and:binE (4,[38,38],0) 5 0∧binE (4,[38,38],0) 4 0∧binE (4,[38,38],0) 3 0∧binE (4,[38,38],0) 2 15:=⟨by unfold binE;kernel_rfl,by unfold binE;kernel_rfl,by unfold binE;kernel_rfl,by unfold binE;kernel_rfl⟩
theorem be_end:binE (4,[93],0) 5 0∧binE (4,[93],0) 4 0∧binE (4,[93],0) 3 0∧binE (4,[93],0) 2 0∧binE (4,[93],0) 1 0:=⟨by unfold binE;kernel_rfl,by unfold binE;kernel_rfl,by unfold binE;kernel_rfl,by unfold binE;kernel_rfl,by unfold binE;kernel_rfl⟩
theorem ex_cmp {l:List Tok} (hll:l.length<100000) {a:Nat} {e e2:List Trm} {t u:TokS} {op:Int} (h1:Eu l 1 a (a+1) e) (he:e.length=1) (h2:Eu l 1 (a+2) (a+3) e2) (he2:e2.length=1) (ha:a+3<l.length)
  (ht:tkAt l (a+1)=t) (b5:binE t 5 0) (b4:binE t 4 0) (b3:binE t 3 op) (hop:op≠0) (hu:tkAt l (a+3)=u) (c5:binE u 5 0) (c4:binE u 4 0):Ex l 3 5 a (a+3) (e++e2++[(op,0,[],[])]):=by
 have x5:=qfd (n:=5) (by omega) (ex_six h1) (by omega) (by rw [ht];exact b5)
 have x4:=qfd (n:=4) (by omega) x5 (by omega) (by rw [ht];exact b4)
 have y5:=qfd (n:=5) (by omega) (ex_six h2) (by omega) (by rw [hu];exact c5)
 have y4:=qfd (n:=4) (by omega) y5 (by omega) (by rw [hu];exact c4)
 exact ex_bin (n:=3) (by omega) x4 (by omega) (by omega) (by rw [ht];exact b3) hop y4 (by omega) (by omega) (.inl rfl) hll (Nat.le_refl _)
theorem ex_top {l:List Tok} {c a b:Nat} {e:List Trm} (h:Ex l 3 c a b e) (hb:b<l.length) (hu:tkAt l b=(4,[93],0)):Ex l 1 (c+2) a b e:=by
 obtain ⟨c5,c4,c3,c2,c1⟩:=be_end
 exact qfd (n:=1) (by omega) (qfd (n:=2) (by omega) h hb (by rw [hu];exact c2)) hb (by rw [hu];exact c1)
theorem ex_at3 {l:List Tok} {a b:Nat} {e:List Trm} {u:TokS} (h:Eu l 1 a b e) (hb:b<l.length) (hu:tkAt l b=u) (c5:binE u 5 0) (c4:binE u 4 0) (c3:binE u 3 0):Ex l 3 5 a b e:=
 qfd (n:=3) (by omega) (qfd (n:=4) (by omega) (qfd (n:=5) (by omega) (ex_six h) hb (by rw [hu];exact c5)) hb (by rw [hu];exact c4)) hb (by rw [hu];exact c3)
def atmsE:List (List Trm):=[[(2,0,[120],[]),(1,1,[],[]),(13,0,[],[])],[(3,0,[112],[97])],[(2,0,[121],[]),(1,1,[],[]),(9,0,[],[])],[(3,0,[113],[98]),(2,0,[120],[]),(1,0,[],[]),(11,0,[],[]),(15,0,[],[])],[(2,0,[120],[]),(2,0,[121],[]),(13,0,[],[])],[(3,0,[112],[98])]]
theorem atm_take {l:List Tok} (hll:l.length<100000) {i a:Nat} (hi:i<6) (h:Pre (atmsT.getD i []) l a):∃ k:Nat,a+(atmsT.getD i []).length=k+1∧k<l.length∧tkAt l k=(4,[93],0)∧M177 l a=some ((k:Int),0,atmsE.getD i []):=by
 obtain ⟨c5,c4,c3,c2,c1⟩:=be_end
 have no:∀ {b:Nat} {k n:Int} {w:List UInt8},tkAt l b=(k,w,n)→w≠[64]→((tk0 l b).1=4→(tk0 l b).2.1≠[64]):=fun hb hw _=>by rw [tk_2 hb];exact hw
 match i,hi,h with
 | 0,_,⟨⟨g0,t0⟩,⟨g1,t1⟩,⟨g2,t2⟩,⟨g3,t3⟩,_⟩=>
   refine ⟨a+3,rfl,g3,t3,qdr (ex_top (ex_cmp hll (eu_var g1 t0 (no t1 (by decide)) hll) rfl (eu_num g2 t2 hll) rfl g3 t1 qf4.1 qf4.2.1 qf4.2.2 (by decide) t3 c5 c4) g3 t3) (by omega) (by decide) g0⟩
 | 1,_,⟨⟨g0,t0⟩,⟨g1,t1⟩,⟨g2,t2⟩,⟨g3,t3⟩,_⟩=>
   exact ⟨a+3,rfl,g3,t3,qdr (ex_top (ex_at3 (eu_at g2 t0 t1 t2 hll) g3 t3 c5 c4 c3) g3 t3) (by omega) (by decide) g0⟩
 | 2,_,⟨⟨g0,t0⟩,⟨g1,t1⟩,⟨g2,t2⟩,⟨g3,t3⟩,_⟩=>
   exact ⟨a+3,rfl,g3,t3,qdr (ex_top (ex_cmp hll (eu_var g1 t0 (no t1 (by decide)) hll) rfl (eu_num g2 t2 hll) rfl g3 t1 be_lt.1 be_lt.2.1 be_lt.2.2 (by decide) t3 c5 c4) g3 t3) (by omega) (by decide) g0⟩
 | 3,_,⟨⟨g0,t0⟩,⟨g1,t1⟩,⟨g2,t2⟩,⟨g3,t3⟩,⟨g4,t4⟩,⟨g5,t5⟩,⟨g6,t6⟩,⟨g7,t7⟩,_⟩=>
   have x3:=ex_at3 (eu_at g2 t0 t1 t2 hll) g3 t3 be_and.1 be_and.2.1 be_and.2.2.1
   have y3:=ex_cmp hll (a:=a+4) (eu_var g5 t4 (no t5 (by decide)) hll) rfl (eu_num g6 t6 hll) rfl g7 t5 be_gt.1 be_gt.2.1 be_gt.2.2 (by decide) t7 c5 c4
   have z2:=ex_bin (n:=2) (by omega) x3 (by simp) g3 (by rw [t3];exact be_and.2.2.2) (by decide) y3 (by simp) g7 (.inr (by rw [t7];exact c2)) hll (Nat.le_refl _)
   exact ⟨a+7,rfl,g7,t7,qdr (qfd (n:=1) (by omega) z2 g7 (by rw [t7];exact c1)) (by omega) (by decide) g0⟩
 | 4,_,⟨⟨g0,t0⟩,⟨g1,t1⟩,⟨g2,t2⟩,⟨g3,t3⟩,_⟩=>
   exact ⟨a+3,rfl,g3,t3,qdr (ex_top (ex_cmp hll (eu_var g1 t0 (no t1 (by decide)) hll) rfl (eu_var g3 t2 (no t3 (by decide)) hll) rfl g3 t1 qf4.1 qf4.2.1 qf4.2.2 (by decide) t3 c5 c4) g3 t3) (by omega) (by decide) g0⟩
 | 5,_,⟨⟨g0,t0⟩,⟨g1,t1⟩,⟨g2,t2⟩,⟨g3,t3⟩,_⟩=>
   exact ⟨a+3,rfl,g3,t3,qdr (ex_top (ex_at3 (eu_at g2 t0 t1 t2 hll) g3 t3 c5 c4 c3) g3 t3) (by omega) (by decide) g0⟩
theorem qds (w:List UInt8) (l:List Tok) (a:Nat) (ha:a<l.length) (bad pl:Int) (out:List Prt):M175 w l a bad pl out=some (decide ((tk0 l a).1=4) && ((tk0 l a).2.1 == w),l,(a:Int),bad,pl,out):=by
 show T175 Ops.std w l a bad pl out some=_
 unfold T175
 simp only [qag,qak,qaa,qab]
 rw [if_pos (by omega)]
 by_cases h:(l.getD a (Ty.dflt ty130)).1=4
 ·rw [if_pos h,if_pos (by omega),decide_eq_true h,Bool.true_and]
 ·rw [if_neg h,decide_eq_false h,Bool.false_and]
theorem close_eq {l:List Tok} (hll:l.length<100000) {w:List UInt8} {a:Nat} (ha:a<l.length) (ht:tkAt l a=(4,w,0)) (pl:Int) (out:List Prt):M176 w l a 0 pl out=some (l,((a+1:Nat):Int),0,pl,out):=by
 have hd:M176 w l a 0 pl out=T176 Ops.std M175 M84 w l a 0 pl out some:=rfl
 rw [hd]
 unfold T176
 simp only [qak,qao,qaa]
 rw [if_neg (by simp),qds w l a ha,tk_1 ht,tk_2 ht,ob_s]
 dsimp only
 simp only [decide_true,Bool.true_and,beq_self_eq_true,Bool.not_true,cond_false]
 rw [show IntKind.wrap IntKind.i64 ((a:Int)+1)=((a+1:Nat):Int) from qaf (by omega)]
def infK (t:TokS) (n:Nat):Int:=
 if n=1 then (if decide (t.1=4) && (t.2.1 == [45,62]) then 7 else 0)
 else if n=2 then (if decide (t.1=4) && (t.2.1 == [124,124]) then 6 else 0)
 else if n=3 then (if decide (t.1=4) && (t.2.1 == [38,38]) then 5 else 0)
 else if decide (t.1=3) && (t.2.1 == [85]) then 9 else if decide (t.1=3) && (t.2.1 == [82]) then 10 else 0
theorem inf_z (l:List Tok) (a:Nat) (bad pl:Int) (out:List Prt) (n:Nat) (p0:Int) (p1:List Tok) (p2 p3 p4:Int) (p5:List Prt):R142 M175 p0 p1 p2 p3 p4 p5 (n+1) (.l1012 l a bad pl out)=some (0,l,(a:Int),bad,pl,out):=by
 show T142 Ops.std _ p0 p1 p2 p3 p4 p5 _ some _=_
 unfold T142
 rfl
theorem infix_eq (l:List Tok) (a:Nat) (ha:a<l.length) (bad pl:Int) (out:List Prt) (n:Nat) (h1:1≤n) (h4:n≤4):M142 (n:Nat) l a bad pl out=some (infK (tkAt l a) n,l,(a:Int),bad,pl,out):=by
 have hz:=inf_z l a bad pl out 999999 (n:Nat) l a bad pl out
 show T142 Ops.std M175 (n:Nat) l a bad pl out (R142 M175 (n:Nat) l a bad pl out 1000000) some none=_
 have hin:(0:Int)≤(a:Int)∧(a:Int)<(l.length:Int):=by omega
 have sg:=fun w=>qds w l a ha bad pl out
 unfold T142
 unfold infK tkAt strip tk0
 have hn:n=1∨n=2∨n=3∨n=4:=by omega
 rcases hn with rfl | rfl | rfl | rfl
 ·have e2:¬ ((1:Nat):Int)=2:=by decide
  have e3:¬ ((1:Nat):Int)=3:=by decide
  have e4:¬ ((1:Nat):Int)=4:=by decide
  have e1:((1:Nat):Int)=1:=rfl
  simp only [qag,qak,qaa,qab,if_pos hin,if_neg e2,if_neg e3,if_neg e4,if_pos e1,sg,ob_s,if_true]
  cases (decide ((l.getD a (Ty.dflt ty130)).1=4) && ((l.getD a (Ty.dflt ty130)).2.1 == [45,62])) with
  | true=>rfl
  | false=>exact hz
 ·have e2:¬ ((2:Nat):Int)=1:=by decide
  have e3:¬ ((2:Nat):Int)=3:=by decide
  have e4:¬ ((2:Nat):Int)=4:=by decide
  have e1:((2:Nat):Int)=2:=rfl
  simp only [qag,qak,qaa,qab,if_pos hin,if_neg e2,if_neg e3,if_neg e4,if_pos e1,sg,ob_s,if_true,if_neg (show ¬ (2:Nat)=1 by decide)]
  cases (decide ((l.getD a (Ty.dflt ty130)).1=4) && ((l.getD a (Ty.dflt ty130)).2.1 == [124,124])) with
  | true=>rfl
  | false=>exact hz
 ·have e2:¬ ((3:Nat):Int)=1:=by decide
  have e3:¬ ((3:Nat):Int)=2:=by decide
  have e4:¬ ((3:Nat):Int)=4:=by decide
  have e1:((3:Nat):Int)=3:=rfl
  simp only [qag,qak,qaa,qab,if_pos hin,if_neg e2,if_neg e3,if_neg e4,if_pos e1,sg,ob_s,if_true,if_neg (show ¬ (3:Nat)=1 by decide),if_neg (show ¬ (3:Nat)=2 by decide)]
  cases (decide ((l.getD a (Ty.dflt ty130)).1=4) && ((l.getD a (Ty.dflt ty130)).2.1 == [38,38])) with
  | true=>rfl
  | false=>exact hz
 ·have e2:¬ ((4:Nat):Int)=1:=by decide
  have e3:¬ ((4:Nat):Int)=2:=by decide
  have e4:¬ ((4:Nat):Int)=3:=by decide
  have e1:((4:Nat):Int)=4:=rfl
  simp only [qag,qak,qaa,qab,if_pos hin,if_neg e2,if_neg e3,if_neg e4,if_pos e1,if_neg (show ¬ (4:Nat)=1 by decide),if_neg (show ¬ (4:Nat)=2 by decide),if_neg (show ¬ (4:Nat)=3 by decide)]
  by_cases hk3:(l.getD a (Ty.dflt ty130)).1=3
  ·simp only [if_pos hk3,decide_eq_true hk3,Bool.true_and]
   cases (l.getD a (Ty.dflt ty130)).2.1 == ([85]:List UInt8) with
   | true=>rfl
   | false=>
     simp only [cond_false,Bool.false_eq_true,if_false]
     cases (l.getD a (Ty.dflt ty130)).2.1 == ([82]:List UInt8) with
     | true=>rfl
     | false=>exact hz
  ·simp only [if_neg hk3,decide_eq_false hk3,Bool.false_and,Bool.false_eq_true,if_false]
   exact hz
def Fx (l:List Tok) (n c a b:Nat) (e:List Prt):Prop:=∀ (d:Nat) (pl:Int) (out:List Prt),c≤d→out.length+1000*c≤1000000000→(Rec83 d).1 (n:Nat) l a 0 pl out=some (l,(b:Int),0,pl,out++e)
def Fu (l:List Tok) (c a b:Nat) (e:List Prt):Prop:=∀ (d:Nat) (pl:Int) (out:List Prt),c≤d→out.length+1000*c≤1000000000→(Rec83 d).2 l a 0 pl out=some (l,(b:Int),0,pl,out++e)
theorem Fx.more {l:List Tok} {n c c' a b:Nat} {e:List Prt} (h:Fx l n c a b e) (hc:c≤c'):Fx l n c' a b e:=fun d pl out hd ho=>h d pl out (by omega) (by omega)
theorem Fu.more {l:List Tok} {c c' a b:Nat} {e:List Prt} (h:Fu l c a b e) (hc:c≤c'):Fu l c' a b e:=fun d pl out hd ho=>h d pl out (by omega) (by omega)
theorem fx_stop {l:List Tok} {n b:Nat} (hn1:1≤n) (hn4:n≤4) (hb:b<l.length) (h0:infK (tkAt l b) n=0) (d:Nat) (p1:List Tok) (p2 p3 p4:Int) (p5:List Prt) (m:Nat) (pl:Int) (out:List Prt):flR d n p1 p2 p3 p4 p5 (m+1) (.l0 l b 0 pl out)=some (l,(b:Int),0,pl,out):=by
 show T83 Ops.std _ _ _ n p1 p2 p3 p4 p5 _ some _=_
 unfold T83
 simp only [qad,qag,qak,qal,qaa,qab,mt,List.length_cons,List.length_nil]
 rw [if_pos trivial,infix_eq l b hb 0 pl out n hn1 hn4,h0,ob_s]
 dsimp only
 rw [if_pos rfl]
theorem fx_five {l:List Tok} {c a b:Nat} {e:List Prt} (h:Fu l c a b e):Fx l 5 (c+1) a b e:=fun d pl out hd ho=>by
 obtain ⟨g,rfl⟩:∃ g,d=g+1:=⟨d-1,by omega⟩
 show T83 Ops.std (Rec83 g).2 (Rec83 g).1 M142 (5:Nat) l a 0 pl out (flR g (5:Nat) l a 0 pl out 1000000) some none=_
 unfold T83
 simp only [qad,qaa]
 rw [if_pos (by omega),h g pl out (by omega) (by omega),ob_s]
theorem fx_first {l:List Tok} {n c a b:Nat} {e:List Prt} (hn:n≤4) (h:Fx l (n+1) c a b e) (d:Nat) (pl:Int) (out:List Prt) (hd:c≤d) (ho:out.length+1000*c≤1000000000):(Rec83 (d+1)).1 (n:Nat) l a 0 pl out=flR d n l a 0 pl out 1000000 (.l0 l b 0 pl (out++e)):=by
 show T83 Ops.std (Rec83 d).2 (Rec83 d).1 M142 n l a 0 pl out (flR d n l a 0 pl out 1000000) some none=_
 unfold T83
 simp only [qad,qaa]
 rw [if_neg (by omega),show IntKind.wrap IntKind.i64 ((n:Int)+1)=((n+1:Nat):Int) from qaf (by omega),h d pl out hd ho,ob_s]
theorem fx_up {l:List Tok} {n c a b:Nat} {e:List Prt} (hn1:1≤n) (hn:n≤4) (h:Fx l (n+1) c a b e) (hb:b<l.length) (h0:infK (tkAt l b) n=0):Fx l n (c+1) a b e:=fun d pl out hd ho=>by
 obtain ⟨g,rfl⟩:∃ g,d=g+1:=⟨d-1,by omega⟩
 rw [fx_first hn h g pl out (by omega) (by omega)]
 exact fx_stop hn1 hn hb h0 g l a 0 pl out 999999 pl _
theorem fx_bin {l:List Tok} {n k c c2 a m b:Nat} {e e2:List Prt} {op:Int} (hn1:1≤n) (hn:n≤4) (h:Fx l (n+1) c a m e) (he:e.length≤1000) (hm:m<l.length) (h1:infK (tkAt l m) n=op) (hop:op≠0) (hk:k=if n=1∨n=4 then n else n+1) (h2:Fx l k c2 (m+1) b e2) (he2:e2.length≤1000) (hb:b<l.length) (h0:infK (tkAt l b) n=0) (hll:l.length<100000) (hc:c2≤c):Fx l n (c+1) a b (e++e2++[(op,[])]):=fun d pl out hd ho=>by
 obtain ⟨g,rfl⟩:∃ g,d=g+1:=⟨d-1,by omega⟩
 rw [fx_first hn h g pl out (by omega) (by omega)]
 show T83 Ops.std _ _ _ n l a 0 pl out (flR g n l a 0 pl out 999999) some _=_
 unfold T83
 simp only [qad,qag,qak,qal,qaa,qab,mt,List.length_cons,List.length_nil]
 have hw:IntKind.wrap IntKind.i64 ((n:Int)+1)=((n+1:Nat):Int):=qaf (by omega)
 have hw2:IntKind.wrap IntKind.i64 ((m:Int)+1)=((m+1:Nat):Int):=qaf (by omega)
 rw [if_pos trivial,infix_eq l m hm 0 pl (out++e) n hn1 hn,h1,ob_s]
 dsimp only
 rw [if_neg hop,hw,hw2]
 have hst:=fx_stop hn1 hn hb h0 g l a 0 pl out 999998 pl (out++e++e2++[(op,[])])
 have key:(ob ((Rec83 g).1 (k:Nat) l ((m+1:Nat):Int) 0 pl (out++e)) fun y1=>if (y1.2.2.2.2.length+(0+1))*32≤140737488355328 then flR g n l a 0 pl out 999999 (.l0 y1.1 y1.2.1 y1.2.2.1 y1.2.2.2.1 (y1.2.2.2.2++[(op,[])])) else none)=some (l,(b:Int),0,pl,out++(e++e2++[(op,[])])):=by
  rw [h2 g pl (out++e) (by omega) (by simp;omega),ob_s]
  dsimp only
  rw [if_pos (by simp only [List.length_append];omega),hst]
  simp only [List.append_assoc]
 by_cases hq1:(n:Int)=1
 ·rw [if_pos hq1]
  rw [hk,if_pos (by omega)] at key
  exact key
 ·rw [if_neg hq1]
  by_cases hq4:(n:Int)=4
  ·rw [if_pos hq4]
   rw [hk,if_pos (by omega)] at key
   exact key
  ·rw [if_neg hq4]
   rw [hk,if_neg (by omega)] at key
   exact key
def opOf (t:TokS):Int:=if decide (t.1=4) && (t.2.1 == [33]) then 4 else if t.1=3 then (if t.2.1 == [88] then 8 else if t.2.1 == [70] then 11 else if t.2.1 == [71] then 12 else 0) else 0
theorem fu_of {l:List Tok} {a:Nat} (ha:a<l.length) {op:Int} (hop:opOf (tkAt l a)=op) (d:Nat) (pl:Int) (out:List Prt) {r:Option (List Tok×Int×Int×Int×List Prt)}
  (h:∀ (p0:List Tok) (p1 p2 p3:Int) (p4:List Prt) (x7 x8:Int) (m:Nat),fuR d p0 p1 p2 p3 p4 (m+2) (.l1011 op l a 0 pl (tk0 l a).1 (tk0 l a).2.1 x7 x8 out)=r):(Rec83 (d+1)).2 l a 0 pl out=r:=by
 show T141 Ops.std M175 (Rec83 d).2 (Rec83 d).1 M176 M177 M84 l a 0 pl out (fuR d l a 0 pl out 1000000) some none=_
 unfold T141
 simp only [qag,qak,qao,qaa,qab]
 rw [if_neg (by simp),if_pos (by omega)]
 have g1':M175 (Array.toList (ByteArray.data { data:=List.toArray (33::mt UInt8) })) l a 0 pl out=_:=qds [33] l a ha 0 pl out
 rw [g1',ob_s]
 dsimp only
 have h':=fun x7 x8=>h l a 0 pl out x7 x8 999998
 clear h g1'
 subst hop
 unfold opOf tkAt strip tk0 at h'
 unfold tk0
 cases hb:(decide ((l.getD a (Ty.dflt ty130)).1=4) && ((l.getD a (Ty.dflt ty130)).2.1 == [33])) with
 | true=>simp only [hb,if_true] at h';exact h' _ _
 | false=>
   simp only [hb,Bool.false_eq_true,if_false] at h'
   simp only [cond_false]
   by_cases hk3:(l.getD a (Ty.dflt ty130)).1=3
   ·simp only [if_pos hk3] at h' ⊢
    cases hb8:(l.getD a (Ty.dflt ty130)).2.1 == ([88]:List UInt8) with
    | true=>
      simp only [hb8,if_true] at h'
      exact h' _ _
    | false=>
      simp only [hb8,Bool.false_eq_true,if_false] at h'
      simp only [cond_false]
      cases hb7:(l.getD a (Ty.dflt ty130)).2.1 == ([70]:List UInt8) with
      | true=>
        simp only [hb7,if_true] at h'
        exact h' _ _
      | false=>
        simp only [hb7,Bool.false_eq_true,if_false] at h'
        simp only [cond_false]
        cases hb6:(l.getD a (Ty.dflt ty130)).2.1 == ([71]:List UInt8) with
        | true=>
          simp only [hb6,if_true] at h'
          exact h' _ _
        | false=>
          simp only [hb6,Bool.false_eq_true,if_false] at h'
          exact h' _ _
   ·simp only [if_neg hk3] at h' ⊢
    exact h' _ _
theorem opOf_una {k:Int} (hk:unaK k):opOf (unaT k)=k:=by
 rcases hk with rfl | rfl | rfl | rfl<;>rfl
theorem fu_una {l:List Tok} (hll:l.length<100000) {c a b:Nat} {e:List Prt} {k:Int} (hk:unaK k) (ha:a<l.length) (ht:tkAt l a=unaT k) (h:Fu l c (a+1) b e) (he:e.length≤1000):Fu l (c+1) a b (e++[(k,[])]):=fun d pl out hd ho=>by
 obtain ⟨g,rfl⟩:∃ g,d=g+1:=⟨d-1,by omega⟩
 refine fu_of ha (op:=k) (by rw [ht];exact opOf_una hk) g pl out fun p0 p1 p2 p3 p4 x7 x8 m=>?_
 show T141 Ops.std _ _ _ _ _ _ p0 p1 p2 p3 p4 _ some _=_
 unfold T141
 have hw1:IntKind.wrap IntKind.i64 ((a:Int)+1)=((a+1:Nat):Int):=qaf (by omega)
 simp only [qad,qas,qag,qak,qal,qaa,qao,qab,mt,List.length_cons,List.length_nil,hw1]
 have h0:k≠0:=by rcases hk with rfl | rfl | rfl | rfl<;>decide
 rw [if_pos h0,h g pl out (by omega) (by omega),ob_s]
 dsimp only
 rw [if_pos (by simp only [List.length_append];omega)]
 simp only [List.append_assoc]
theorem fu_con {l:List Tok} (hll:l.length<100000) {a:Nat} (b:Bool) (ha:a<l.length) (ht:tkAt l a=(2,conW b,0)):Fu l 1 a (a+1) [(if b then 1 else 2,[])]:=fun d pl out hd ho=>by
 obtain ⟨g,rfl⟩:∃ g,d=g+1:=⟨d-1,by omega⟩
 refine fu_of ha (op:=0) (by rw [ht];cases b<;>rfl) g pl out fun p0 p1 p2 p3 p4 x7 x8 m=>?_
 show T141 Ops.std _ _ _ _ _ _ p0 p1 p2 p3 p4 _ some _=_
 unfold T141
 have hw1:IntKind.wrap IntKind.i64 ((a:Int)+1)=((a+1:Nat):Int):=qaf (by omega)
 simp only [qad,qas,qag,qak,qal,qaa,qao,qab,mt,List.length_cons,List.length_nil,hw1,tk_1 ht,tk_2 ht]
 simp only [not_true_eq_false,if_false,if_true]
 cases b with
 | true=>
   show cond true _ _=_
   simp only [cond_true]
   rw [if_pos (by omega)]
   rfl
 | false=>
   show cond false _ (cond true _ _)=_
   simp only [cond_true,cond_false]
   show T141 Ops.std _ _ _ _ _ _ p0 p1 p2 p3 p4 _ some _=_
   unfold T141
   simp only [qal,qaa,mt,List.length_cons,List.length_nil]
   rw [if_pos (by omega)]
   rfl
theorem fu_bra {l:List Tok} (hll:l.length<100000) {c a b:Nat} {e:List Prt} (ha:a<l.length) (ht:tkAt l a=(4,[40],0)) (h:Fx l 1 c (a+1) b e) (hb:b<l.length) (hu:tkAt l b=(4,[41],0)):Fu l (c+1) a (b+1) e:=fun d pl out hd ho=>by
 obtain ⟨g,rfl⟩:∃ g,d=g+1:=⟨d-1,by omega⟩
 refine fu_of ha (op:=0) (by rw [ht];rfl) g pl out fun p0 p1 p2 p3 p4 x7 x8 m=>?_
 show T141 Ops.std _ _ _ _ _ _ p0 p1 p2 p3 p4 _ some _=_
 unfold T141
 have hw1:IntKind.wrap IntKind.i64 ((a:Int)+1)=((a+1:Nat):Int):=qaf (by omega)
 simp only [qad,qas,qag,qak,qal,qaa,qao,qab,mt,List.length_cons,List.length_nil,hw1,tk_1 ht,tk_2 ht]
 have s1:M175 [40] l (a:Int) 0 pl out=some (true,l,(a:Int),0,pl,out):=by rw [qds [40] l a ha,tk_1 ht,tk_2 ht];rfl
 have s1':M175 (Array.toList (ByteArray.data { data:=List.toArray [40] })) l (a:Int) 0 pl out=some (true,l,(a:Int),0,pl,out):=s1
 simp only [not_true_eq_false,if_false,if_true]
 try rw [if_neg (by decide)]
 first | rw [s1] | rw [s1']
 rw [ob_s]
 dsimp only
 simp only [cond_true,hw1]
 try rw [if_neg (show ¬ (4:Int)=2 by decide)]
 show T141 Ops.std _ _ _ _ _ _ p0 p1 p2 p3 p4 _ some _=_
 unfold T141
 dsimp only
 have f1':(Rec83 g).1 1 l ((a+1:Nat):Int) 0 pl out=some (l,(b:Int),0,pl,out++e):=h g pl out (by omega) (by omega)
 rw [f1',ob_s]
 dsimp only
 have q1':M176 (Array.toList (ByteArray.data { data:=List.toArray [41] })) l b 0 pl (out++e)=_:=close_eq hll hb hu pl (out++e)
 rw [q1',ob_s]
theorem fu_atm {l:List Tok} (hll:l.length<100000) {a k:Nat} {x:List Trm} (ha:a<l.length) (ht:tkAt l a=(4,[91],0)) (h:M177 l ((a+1:Nat):Int)=some ((k:Int),0,x)) (hk:k<l.length) (hu:tkAt l k=(4,[93],0)):Fu l 1 a (k+1) [(3,x)]:=fun d pl out hd ho=>by
 obtain ⟨g,rfl⟩:∃ g,d=g+1:=⟨d-1,by omega⟩
 refine fu_of ha (op:=0) (by rw [ht];rfl) g pl out fun p0 p1 p2 p3 p4 x7 x8 m=>?_
 show T141 Ops.std _ _ _ _ _ _ p0 p1 p2 p3 p4 _ some _=_
 unfold T141
 have hw1:IntKind.wrap IntKind.i64 ((a:Int)+1)=((a+1:Nat):Int):=qaf (by omega)
 simp only [qad,qas,qag,qak,qal,qaa,qao,qab,mt,List.length_cons,List.length_nil,hw1,tk_1 ht,tk_2 ht]
 have s1:M175 [40] l (a:Int) 0 pl out=some (false,l,(a:Int),0,pl,out):=by rw [qds [40] l a ha,tk_1 ht,tk_2 ht];rfl
 have s1':M175 (Array.toList (ByteArray.data { data:=List.toArray [40] })) l (a:Int) 0 pl out=some (false,l,(a:Int),0,pl,out):=s1
 have s2:M175 [91] l (a:Int) 0 pl out=some (true,l,(a:Int),0,pl,out):=by rw [qds [91] l a ha,tk_1 ht,tk_2 ht];rfl
 have s2':M175 (Array.toList (ByteArray.data { data:=List.toArray [91] })) l (a:Int) 0 pl out=some (true,l,(a:Int),0,pl,out):=s2
 simp only [not_true_eq_false,if_false,if_true]
 try rw [if_neg (by decide)]
 first | rw [s1] | rw [s1']
 rw [ob_s]
 dsimp only
 simp only [cond_false]
 first | rw [s2] | rw [s2']
 rw [ob_s]
 dsimp only
 simp only [cond_true]
 try rw [if_neg (show ¬ (4:Int)=2 by decide)]
 show T141 Ops.std _ _ _ _ _ _ p0 p1 p2 p3 p4 _ some _=_
 unfold T141
 simp only [qak,qal,qaa,mt,List.length_cons,List.length_nil,hw1]
 rw [h,ob_s]
 dsimp only
 rw [if_neg (by decide),if_neg (by decide),if_pos (by omega)]
 have q1':M176 (Array.toList (ByteArray.data { data:=List.toArray [93] })) l k 0 pl (out++[(3,x)])=_:=close_eq hll hk hu pl (out++[(3,x)])
 rw [q1',ob_s]
def Sen.tree:Sen→Fm Trm
 | .con b=>.nul (if b then 1 else 2,[])
 | .atm i=>.nul (3,atmsE.getD i [])
 | .una k s=>.un (k,[]) s.tree
 | .bra s=>s.tree
 | .bin k a b=>.bi (k,[]) a.tree b.tree
def Sen.deep:Sen→Nat
 | .con _=>1
 | .atm _=>1
 | .una _ s=>s.deep+1
 | .bra s=>s.deep+7
 | .bin _ a b=>a.deep+b.deep+7
theorem Sen.deep_pos (s:Sen):1≤s.deep:=by cases s<;>simp only [Sen.deep]<;>omega
theorem lvK_le {k:Int}:1≤lvK k∧lvK k≤4:=by unfold lvK;(repeat' split)<;>omega
theorem Sen.lv_le (s:Sen):1≤s.lv∧s.lv≤5:=by
 cases s with
 | bin k a b=>have:=lvK_le (k:=k);simp only [Sen.lv];omega
 | _=>simp only [Sen.lv];omega
def stopT (n:Nat) (t:TokS):Prop:=∀ m,n≤m→m≤4→infK t m=0
theorem stopT.more {n n':Nat} {t:TokS} (h:stopT n t) (hn:n≤n'):stopT n' t:=fun m h1 h2=>h m (by omega) h2
theorem fx_down {l:List Tok} {c a b:Nat} {e:List Prt} (hb:b<l.length):∀ (k n:Nat),1≤n→n+k≤5→stopT n (tkAt l b)→Fx l (n+k) c a b e→Fx l n (c+k) a b e
 | 0,n,_,_,_,h=>h
 | k+1,n,h1,h5,hs,h=>by
   have h':Fx l (n+1+k) c a b e:=by rw [show n+1+k=n+(k+1) by omega];exact h
   have:=fx_down hb k (n+1) (by omega) (by omega) (hs.more (by omega)) h'
   have:=fx_up h1 (by omega) this hb (hs n (Nat.le_refl _) (by omega))
   rw [show c+k+1=c+(k+1) by omega] at this
   exact this
theorem inf_bin {k:Int} (hk:binK k):infK (binT k) (lvK k)=k∧stopT (lvK k+1) (binT k):=by
 rcases hk with rfl | rfl | rfl | rfl | rfl
 all_goals
  refine ⟨rfl,fun m h1 h2=>?_⟩
  have h1':(_:Nat)≤m:=h1
  have hm:m=1∨m=2∨m=3∨m=4∨m=0:=by omega
  rcases hm with rfl | rfl | rfl | rfl | rfl
  all_goals first | rfl | (exact absurd h1 (by decide))
theorem stop_close:stopT 1 (4,[41],0):=fun m h1 h2=>by
 have hm:m=1∨m=2∨m=3∨m=4:=by omega
 rcases hm with rfl | rfl | rfl | rfl<;>rfl
theorem stop_end {t:TokS} (h:t.1=5):stopT 1 t:=fun m h1 h2=>by
 unfold infK
 have e4:decide (t.1=4)=false:=by rw [h];rfl
 have e3:decide (t.1=3)=false:=by rw [h];rfl
 simp only [e4,e3,Bool.false_and,Bool.false_eq_true,if_false,ite_self]
theorem Sen.size_toks:∀ (s:Sen),s.ok→s.tree.flat.length≤s.toks.length
 | .con b,_=>by simp [Sen.tree,Sen.toks,Fm.flat]
 | .atm i,_=>by simp [Sen.tree,Sen.toks,Fm.flat]
 | .una k s,h=>by have:=s.size_toks h.2.2;simp [Sen.tree,Sen.toks,Fm.flat];omega
 | .bra s,h=>by have:=s.size_toks h;simp only [Sen.tree,Sen.toks,List.length_cons,List.length_append];omega
 | .bin k a b,h=>by
   have:=a.size_toks h.2.2.2.2.1
   have:=b.size_toks h.2.2.2.2.2
   simp [Sen.tree,Sen.toks,Fm.flat];omega
theorem Sen.read {l:List Tok} (hll:l.length≤1000):∀ (s:Sen),s.ok→∀ a,Pre s.toks l a→a+s.toks.length<l.length→
  (s.lv=5→Fu l s.deep a (a+s.toks.length) s.tree.flat)∧(∀ n,1≤n→n≤s.lv→stopT n (tkAt l (a+s.toks.length))→Fx l n (s.deep+6) a (a+s.toks.length) s.tree.flat):=by
 have up:∀ {c a b n:Nat} {e:List Prt},Fu l c a b e→b<l.length→1≤n→n≤5→stopT n (tkAt l b)→Fx l n (c+6) a b e:=fun {c a b n e} hu hb h1 h5 hs=>by
  have:=fx_down hb (5-n) n h1 (by omega) hs (by rw [show n+(5-n)=5 by omega];exact fx_five hu)
  exact this.more (by omega)
 intro s
 induction s with
 | con b=>
   intro h a hp hl
   have hu:=fu_con (by omega) b hp.1.1 hp.1.2
   exact ⟨fun _=>hu,fun n h1 h5 hs=>up hu hl h1 (by simpa [Sen.lv] using h5) hs⟩
 | atm i=>
   intro h a hp hl
   obtain ⟨k,e1,e2,e3,e4⟩:=atm_take (by omega) h hp.2
   have e5:a+(Sen.atm i).toks.length=k+1:=by simp only [Sen.toks,List.length_cons];omega
   have hu:=fu_atm (by omega) hp.1.1 hp.1.2 e4 e2 e3
   rw [e5] at hl ⊢
   exact ⟨fun _=>hu,fun n h1 h5 hs=>up hu hl h1 (by simpa [Sen.lv] using h5) hs⟩
 | una k s ih=>
   intro h a hp hl
   obtain ⟨hk,h5,hs⟩:=h
   have e5:a+(Sen.una k s).toks.length=a+1+s.toks.length:=by simp only [Sen.toks,List.length_cons];omega
   rw [e5] at hl ⊢
   have ht:=s.size_toks hs
   have hu:=fu_una (by omega) hk hp.1.1 hp.1.2 ((ih hs (a+1) hp.2 hl).1 h5) (by omega)
   exact ⟨fun _=>hu,fun n h1 h5 hs=>up hu hl h1 (by simpa [Sen.lv] using h5) hs⟩
 | bra s ih=>
   intro h a hp hl
   have hp2:=(Pre.app s.toks [(4,[41],0)] l (a+1)).1 hp.2
   have e5:a+(Sen.bra s).toks.length=a+1+s.toks.length+1:=by simp only [Sen.toks,List.length_cons,List.length_append,List.length_nil];omega
   rw [e5] at hl ⊢
   have hx:=(ih h (a+1) hp2.1 (by omega)).2 1 (Nat.le_refl _) s.lv_le.1 (by rw [hp2.2.1.2];exact stop_close)
   have hu:=fu_bra (by omega) hp.1.1 hp.1.2 hx hp2.2.1.1 hp2.2.1.2
   exact ⟨fun _=>hu,fun n h1 h5 hs=>up hu hl h1 (by simpa [Sen.lv] using h5) hs⟩
 | bin k x y ihx ihy=>
   intro h a hp hl
   obtain ⟨hk,hx1,hy1,hy2,hxo,hyo⟩:=h
   have hp1:=(Pre.app x.toks (binT k::y.toks) l a).1 hp
   have e5:a+(Sen.bin k x y).toks.length=a+x.toks.length+1+y.toks.length:=by simp only [Sen.toks,List.length_cons,List.length_append];omega
   rw [e5] at hl ⊢
   have hlk:=lvK_le (k:=k)
   have hb:=inf_bin hk
   refine ⟨fun h=>absurd h (by simp only [Sen.lv];omega),fun n h1 h5 hs=>?_⟩
   have h5:n≤lvK k:=h5
   have hX:=(ihx hxo a hp1.1 (by omega)).2 (lvK k+1) (by omega) (by omega) (by rw [hp1.2.1.2];exact hb.2)
   have hst:stopT (lvK k) (tkAt l (a+x.toks.length+1+y.toks.length)):=hs.more h5
   have tx:=x.size_toks hxo
   have ty_:=y.size_toks hyo
   have hY:∃ q,q=(if lvK k=1∨lvK k=4 then lvK k else lvK k+1)∧Fx l q (y.deep+6) (a+x.toks.length+1) (a+x.toks.length+1+y.toks.length) y.tree.flat:=by
    refine ⟨_,rfl,?_⟩
    split
    ·exact (ihy hyo (a+x.toks.length+1) hp1.2.2 (by omega)).2 (lvK k) (by omega) hy1 hst
    ·rename_i hne
     have:lvK k≠y.lv:=fun e=>hne (hy2 e)
     exact (ihy hyo (a+x.toks.length+1) hp1.2.2 (by omega)).2 (lvK k+1) (by omega) (by omega) (hst.more (by omega))
   obtain ⟨q,hq,hY⟩:=hY
   have hk0:k≠0:=by rcases hk with rfl | rfl | rfl | rfl | rfl<;>decide
   have px:=x.deep_pos
   have py:=y.deep_pos
   have hB:=fx_bin (by omega) hlk.2 (hX.more (show x.deep+6≤x.deep+y.deep+6 by omega)) (by omega) hp1.2.1.1 (by rw [hp1.2.1.2];exact hb.1) hk0 hq hY (by omega) hl (hst _ (Nat.le_refl _) hlk.2) (by omega) (by omega)
   have hD:=fx_down hl (lvK k-n) n h1 (by omega) hs (by rw [show n+(lvK k-n)=lvK k by omega];exact hB)
   exact hD.more (by simp only [Sen.deep];omega)
theorem Sen.parse (s:Sen) (h:s.ok) (ht:s.toks.length≤990) (hd:s.deep≤100000) (hl:s.text.length≤60000):∃ (e x:Int) (f:List Prt),M45 s.text=some (e,x,f)∧((e=0∧f=s.tree.flat∧s.tree.flat.length≤24)∨(e≠0∧f=[]∧24<s.tree.flat.length)):=by
 obtain ⟨tks,x,hx,hm⟩:=s.lexS h hl
 have hp:Pre s.toks (tks++[(5,[],0,x)]) 0:=by
  have:=Pre.of tks [] [(5,[],0,x)]
  rw [hm] at this
  exact this
 have hlen:s.toks.length=tks.length:=by rw [←hm,List.length_map]
 have hlen2:(tks++[((5,[],0,x):Tok)]).length=s.toks.length+1:=by simp [hlen]
 have hend:tk0 (tks++[((5,[],0,x):Tok)]) (0+s.toks.length)=(5,[],0,x):=by
  rw [Nat.zero_add,hlen]
  unfold tk0
  rw [qbg]
 have hr:=(s.read (l:=tks++[(5,[],0,x)]) (by omega) h 0 hp (by omega)).2 1 (Nat.le_refl _) s.lv_le.1 (stop_end (by show (tk0 _ _).1=5;rw [hend]))
 show ∃ (e x:Int) (f:List Prt),T45 Ops.std M82 M83 M84 s.text some=_∧_
 unfold T45
 rw [lex_ref,hx,ob_s]
 simp only [qak,qad,qag,qao,qaa,mt]
 generalize hL:tks++[((5,[],0,x):Tok)]=L at *
 rw [if_neg (by simp)]
 have f1':M83 1 L 0 0 0 []=some (L,((0+s.toks.length:Nat):Int),0,0,s.tree.flat):=hr 1000000 0 [] (by omega) (by simp;omega)
 rw [f1',ob_s]
 dsimp only
 rw [if_pos rfl,if_pos (by omega)]
 have h5:(L.getD (Int.toNat ((0+s.toks.length:Nat):Int)) (Ty.dflt ty130)).1=5:=by
  show (tk0 L (0+s.toks.length)).1=5
  rw [hend]
 rw [if_neg (fun h=>h h5),if_neg (by simp)]
 by_cases h24:(24:Int)<(s.tree.flat.length:Nat)
 ·rw [if_pos h24];exact ⟨_,_,_,rfl,.inr ⟨by decide,rfl,by omega⟩⟩
 ·rw [if_neg h24];exact ⟨_,_,_,rfl,.inl ⟨rfl,rfl,by omega⟩⟩
def vrs:Nat→List (Nat×Nat×Nat)→List Vrb
 | _,[]=>[]
 | k,c::cs=>vrb k c::vrs (k+1) cs
def prs:Nat→List Bool→List Pcs
 | _,[]=>[]
 | k,d::ds=>pcs k d::prs (k+1) ds
theorem vrs_len:∀ (cs:List (Nat×Nat×Nat)) (k:Nat),(vrs k cs).length=cs.length
 | [],_=>rfl
 | c::cs,k=>by simp [vrs,vrs_len cs (k+1)]
theorem prs_len:∀ (ds:List Bool) (k:Nat),(prs k ds).length=ds.length
 | [],_=>rfl
 | d::ds,k=>by simp [prs,prs_len ds (k+1)]
theorem vrs_ok:∀ (cs:List (Nat×Nat×Nat)) (k:Nat),∀ v∈vrs k cs,v.1.length≤60000
 | [],_,v,h=>by cases h
 | c::cs,k,v,h=>by
   rcases List.mem_cons.1 h with h | h
   ·rw [h]
    have:=qar (n:=1) (l:=[[120],[121],[122]]) rfl k
    show (vnm k).length≤60000
    unfold vnm
    omega
   ·exact vrs_ok cs (k+1) v h
theorem prs_ok:∀ (ds:List Bool) (k:Nat),∀ p∈prs k ds,p.1.length≤60000∧p.2.length≤60001∧okL 60000 p.2
 | [],_,v,h=>by cases h
 | d::ds,k,v,h=>by
   rcases List.mem_cons.1 h with h | h
   ·rw [h]
    have:=qar (n:=1) (l:=[[112],[113],[114]]) rfl k
    refine ⟨?_,?_,?_⟩
    ·show (pnm k).length≤60000
     unfold pnm
     omega
    ·cases d<;>simp [pcs]
    ·intro x hx
     cases d<;>simp [pcs] at hx
     ·rcases hx with h | h | h<;>rw [h]<;>simp
     ·rcases hx with h | h | h | h<;>rw [h]<;>simp
   ·exact prs_ok ds (k+1) v h
theorem qd3 {L:List (List UInt8)} {i:Nat} {x:List UInt8} {r:List (List UInt8)} (h:L.drop i=x::r):i<L.length∧L.getD i (Ty.dflt ty9)=x∧L.drop (i+1)=r:=by
 have hi:i<L.length:=by
  apply Classical.byContradiction
  intro hn
  rw [List.drop_eq_nil_of_le (by omega)] at h
  cases h
 rw [List.drop_eq_getElem_cons hi] at h
 injection h with h1 h2
 refine ⟨hi,?_,h2⟩
 rw [List.getD_eq_getElem?_getD,List.getElem?_eq_getElem hi]
 exact h1
theorem pm_vars (s:List UInt8) (L rest:List (List UInt8)) (hL:L.length≤5001) (ps:List Pcs) (ts:List Trn):∀ (cs:List (Nat×Nat×Nat)) (k i n:Nat) (st:Int) (vs:List Vrb),okC3 cs→k+cs.length≤3→L.drop i=vls k cs++rest→vs.length+cs.length≤10→st≤1→
  ∃ st':Int,st'≤1∧L.drop (i+cs.length)=rest∧pmR s (n+cs.length) (.l0 st i L vs ps ts)=pmR s n (.l0 st' ((i+cs.length:Nat):Int) L (vs++vrs k cs) ps ts)
 | [],k,i,n,st,vs,hk,h3,hd,hv,hs=>⟨st,hs,hd,by simp [vrs]⟩
 | c::cs,k,i,n,st,vs,hk,h3,hd,hv,hs=>by
   simp only [List.length_cons] at h3 hv
   obtain ⟨g1,g2,g3⟩:=qd3 (L:=L) (i:=i) (x:=vline k c) (r:=vls (k+1) cs++rest) hd
   obtain ⟨st',e1,e2,e3⟩:=pm_vars s L rest hL ps ts cs (k+1) (i+1) n 1 (vs++[vrb k c]) (fun x hx=>hk x (List.mem_cons_of_mem _ hx)) (by omega) g3 (by simp;omega) (by omega)
   have:=pm_var s L i (n+cs.length) g1 (by omega) (by omega) (hk c (List.mem_cons_self ..)) g2 st hs vs ps ts (by omega)
   refine ⟨st',e1,?_,?_⟩
   ·rw [List.length_cons,show i+(cs.length+1)=i+1+cs.length by omega];exact e2
   ·rw [List.length_cons,show n+(cs.length+1)=n+cs.length+1 by omega,show i+(cs.length+1)=i+1+cs.length by omega]
    refine this.trans (e3.trans ?_)
    simp [vrs]
theorem pm_procs (s:List UInt8) (L rest:List (List UInt8)) (hL:L.length≤5001) (vs:List Vrb) (ts:List Trn):∀ (ds:List Bool) (k i n:Nat) (st:Int) (ps:List Pcs),k+ds.length≤3→L.drop i=pls k ds++rest→i≤L.length→ps.length+ds.length≤10→st≤2→
  ∃ st':Int,i+ds.length≤L.length∧pmR s (n+ds.length) (.l0 st i L vs ps ts)=pmR s n (.l0 st' ((i+ds.length:Nat):Int) L vs (ps++prs k ds) ts)
 | [],k,i,n,st,ps,h3,hd,hi,hv,hs=>⟨st,hi,by simp [prs]⟩
 | d::ds,k,i,n,st,ps,h3,hd,hi,hv,hs=>by
   simp only [List.length_cons] at h3 hv
   obtain ⟨g1,g2,g3⟩:=qd3 (L:=L) (i:=i) (x:=pline k d) (r:=pls (k+1) ds++rest) hd
   obtain ⟨st',e1,e3⟩:=pm_procs s L rest hL vs ts ds (k+1) (i+1) n 2 (ps++[pcs k d]) (by omega) g3 (by omega) (by simp;omega) (by omega)
   have:=pm_proc s L i (n+ds.length) g1 (by omega) (by omega) g2 st hs vs ps ts (by omega)
   refine ⟨st',by rw [List.length_cons];omega,?_⟩
   rw [List.length_cons,show n+(ds.length+1)=n+ds.length+1 by omega,show i+(ds.length+1)=i+1+ds.length by omega]
   refine this.trans (e3.trans ?_)
   simp [prs]
theorem drop_le {L rest:List (List UInt8)} {i:Nat} {x:List (List UInt8)} (h:L.drop i=x++rest) (hx:x≠[]):i≤L.length:=by
 apply Classical.byContradiction
 intro hn
 rw [List.drop_eq_nil_of_le (by omega)] at h
 cases x with
 | nil=>exact hx rfl
 | cons a b=>cases h
theorem parse_keep (cs:List (Nat×Nat×Nat)) (ds:List Bool) (r:List UInt8) (h1:cs.length≤3) (h2:okC3 cs) (h3:ds.length≤3) (h4:ds≠[]) (hl:(vlines 0 cs++(plines 0 ds++r)).length≤5000):keepP (M47 (vlines 0 cs++(plines 0 ds++r))) (vrs 0 cs) (prs 0 ds):=by
 generalize hs:vlines 0 cs++(plines 0 ds++r)=s at hl ⊢
 show keepP (T47 Ops.std M86 M87 M88 M90 M89 M18 s (pmR s 1000000) some none) _ _
 unfold T47
 simp only [qad,qaa]
 rw [if_neg (by omega)]
 obtain ⟨L,l1,l2,l3,l4⟩:=cut_ok s (by omega) 10
 have hL:L=vls 0 cs++(pls 0 ds++cutW 10 [] r):=by
  have e:=cut_eq s (by omega) 10
  rw [l1] at e
  injection e with e
  rw [e,←hs,cut_vls _ cs 0 h2 (by omega),cut_pls r ds 0 (by omega)]
 rw [l1,ob_s]
 obtain ⟨st',e1,e2,e3⟩:=pm_vars s L (pls 0 ds++cutW 10 [] r) (by omega) [] [] cs 0 0 (1000000-cs.length) 0 [] h2 (by omega) (by simpa using hL) (by simp;omega) (by omega)
 have hpl:pls 0 ds≠[]:=by
  cases ds with
  | nil=>exact absurd rfl h4
  | cons d ds=>simp [pls]
 obtain ⟨st2,f1,f3⟩:=pm_procs s L (cutW 10 [] r) (by omega) (vrs 0 cs) [] ds 0 (0+cs.length) (1000000-cs.length-ds.length) st' [] (by omega) e2 (drop_le e2 hpl) (by simp;omega) (by omega)
 have e3':pmR s 1000000 (.l0 0 0 L [] [] [])=pmR s (1000000-cs.length) (.l0 st' ((0+cs.length:Nat):Int) L (vrs 0 cs) [] []):=by
  have:=e3
  rw [show 1000000-cs.length+cs.length=1000000 by omega] at this
  simpa using this
 have f3':pmR s (1000000-cs.length) (.l0 st' ((0+cs.length:Nat):Int) L (vrs 0 cs) [] [])=pmR s (1000000-cs.length-ds.length) (.l0 st2 ((0+cs.length+ds.length:Nat):Int) L (vrs 0 cs) (prs 0 ds) []):=by
  have:=f3
  rw [show 1000000-cs.length-ds.length+ds.length=1000000-cs.length by omega] at this
  simpa using this
 have hk:=pm_keep s L (by omega) (fun x hx=>by have:=l4 x hx;omega) (L.length-(0+cs.length+ds.length)) (0+cs.length+ds.length) (1000000-cs.length-ds.length) st2 (vrs 0 cs) (prs 0 ds) [] (by omega) (by omega)
  ⟨by rw [vrs_len];omega,vrs_ok cs 0,by rw [prs_len];omega,prs_ok ds 0,by simp,fun v h=>by cases h⟩
 have e4:=e3'.trans f3'
 have e5:pmR s 1000000 (.l0 0 0 L [] [] [])=pmR s 1000000 (.l0 0 ((0:Nat):Int) L [] [] []):=rfl
 first
  | (rw [←e4] at hk;exact hk)
  | (have:keepP (pmR s 1000000 (.l0 0 0 L [] [] [])) (vrs 0 cs) (prs 0 ds):=by rw [e4];exact hk
     exact this)
structure hasAll (vs:List Vrb) (ps:List Pcs):Prop where
 x:∃ v∈vs,v.1=[120]
 y:∃ v∈vs,v.1=[121]
 pa:[97]∈plL ps [112]
 pb:[98]∈plL ps [112]
 qb:[98]∈plL ps [113]
theorem Model_raw (p0 p1:Int) (p2:List (List Int)):∃ vs ps ts,M12 p0 p1 p2=some (vs,ps,ts)∧rightOr vs ps ts∧((vs=[]∧ps=[]∧ts=[])∨hasAll vs ps):=by
 obtain ⟨cs,ds,r,c1,c2,c3,c4,c5,t1,t2⟩:=Text_raw p0 p1 p2
 have hk:=parse_keep cs ds r (by omega) c3 c5 (by intro h;rw [h] at c4;simp at c4) t2
 obtain ⟨vs,ps,ts,e,x,h1,h2⟩:=parseModel_ok _ t2
 obtain ⟨vs',ps',ts',e',x',k1,k2⟩:=hk
 rw [h1] at k1
 injection k1 with k1
 simp only [Prod.mk.injEq] at k1
 obtain ⟨rfl,rfl,rfl,rfl,rfl⟩:=k1
 refine ⟨vs,ps,ts,?_,h2,?_⟩
 ·show T12 Ops.std M48 M47 p0 p1 p2 some=_
  unfold T12
  rw [t1,ob_s,h1,ob_s]
 ·rcases k2 with k2 | ⟨⟨av,rfl⟩,ap,rfl⟩
  ·exact .inl k2
  ·right
   match cs,ds,c1,c4 with
   | a::b::cs,d0::d1::ds,_,_=>
     have pl0:plL (prs 0 (d0::d1::ds)++ap) [112]=(pcs 0 d0).2:=by
      show plL (pcs 0 d0::_) [112]=_
      rw [qed,if_pos (by rfl)]
     have pl1:plL (prs 0 (d0::d1::ds)++ap) [113]=(pcs 1 d1).2:=by
      show plL (pcs 0 d0::pcs 1 d1::_) [113]=_
      cases d0<;>(rw [qed,if_neg (by decide),qed,if_pos (by rfl)])
     refine ⟨⟨vrb 0 a,List.mem_append.2 (.inl (List.mem_cons_self ..)),rfl⟩,⟨vrb 1 b,List.mem_append.2 (.inl (List.mem_cons_of_mem _ (List.mem_cons_self ..))),rfl⟩,?_,?_,?_⟩
     ·rw [pl0];simp [pcs]
     ·rw [pl0];simp [pcs]
     ·rw [pl1];simp [pcs]
section
variable {vs:List Vrb} {ps:List Pcs} (ts:List Trn)
theorem qe9 (hg:smallG vs ps) (e:List Trm) (he:shortE e) (h2:∀ x∈e,x.1=2→∃ v∈vs,v.1=x.2.2.1) (h3:∀ x∈e,x.1=3→x.2.2.2∈plL ps x.2.2.1):∀ (t i n:Nat),i+t=e.length→t<n→R62 M109 M105 M108 M110 vs ps ts e n (.l0 i)=some (rightE e)
 | t,i,0,hi,hn=>by omega
 | 0,i,n+1,hi,hn=>by
   show T62 Ops.std _ _ _ _ vs ps ts e _ some _=_
   unfold T62
   simp only [qad,qaa]
   rw [if_neg (by omega),he.right,ob_s]
 | t+1,i,n+1,hi,hn=>by
   have ih:=qe9 hg e he h2 h3 t (i+1) n (by omega) (by omega)
   have h30:=he.1
   obtain ⟨x,hx⟩:∃ x,e.getD i (Ty.dflt ty150)=x:=⟨_,rfl⟩
   have hxm:x∈e:=by
    rw [←hx,List.getD_eq_getElem?_getD,List.getElem?_eq_getElem (show i<e.length by omega)]
    exact List.getElem_mem _
   show T62 Ops.std _ _ _ _ vs ps ts e _ some _=_
   unfold T62
   simp only [qad,qag,qak,qaa,qab,hx,show IntKind.wrap IntKind.i64 ((i:Int)+1)=((i+1:Nat):Int) from qaf (by omega)]
   rw [if_pos (by omega),if_pos (by omega)]
   obtain ⟨r,r1,r2⟩:=varR_ok (ps:=ps) (ts:=ts) hg.v x.2.2.1
   obtain ⟨q,q1,q2⟩:=placeR_ok (ts:=ts) hg x.2.2.1
   obtain ⟨z,z1,z2⟩:=q2 x.2.2.2
   by_cases c2:x.1=2
   ·have hr:=r2.2 (h2 x hxm c2)
    rw [if_pos c2,if_pos (by omega),r1,ob_s,if_neg (by omega),if_pos (by omega),if_neg (by omega)]
    exact ih
   ·rw [if_neg c2,if_pos (by omega)]
    by_cases c3:x.1=3
    ·have hz:=z2.2 (h3 x hxm c3)
     rw [if_pos c3,if_pos (by omega),if_pos (by omega),q1,ob_s,z1,ob_s,if_neg (by omega)]
     exact ih
    ·rw [if_neg c3]
     exact ih
theorem known7_true (hg:smallG vs ps) (e:List Trm) (he:shortE e) (hr:rightE e=true) (h2:∀ x∈e,x.1=2→∃ v∈vs,v.1=x.2.2.1) (h3:∀ x∈e,x.1=3→x.2.2.2∈plL ps x.2.2.1):M62 vs ps ts e=some true:=by
 show T62 Ops.std M109 M105 M108 M110 vs ps ts e (R62 M109 M105 M108 M110 vs ps ts e 1000000) some none=_
 unfold T62
 have:=qe9 ts hg e he h2 h3 e.length 0 1000000 (by omega) (by have:=he.1;omega)
 rw [hr] at this
 exact this
theorem atm_known (hg:smallG vs ps) (ha:hasAll vs ps) {i:Nat} (hi:i<6):knB vs ps ts (atmsE.getD i [])=true:=by
 have hs:∀ i,i<6→rightE (atmsE.getD i [])=true:=by decide
 have hr:=hs i hi
 have key:M62 vs ps ts (atmsE.getD i [])=some true:=by
  refine known7_true ts hg _ (shortE.of hr) hr ?_ ?_
  ·intro x hx h
   have hx':=hx
   match i,hi with
   | 0,_=>simp [atmsE] at hx';rcases hx' with h' | h' | h'<;>subst h'<;>first | exact ha.x | exact ha.y | (exact absurd h (by decide))
   | 1,_=>simp [atmsE] at hx';subst hx';exact absurd h (by decide)
   | 2,_=>simp [atmsE] at hx';rcases hx' with h' | h' | h'<;>subst h'<;>first | exact ha.x | exact ha.y | (exact absurd h (by decide))
   | 3,_=>simp [atmsE] at hx';rcases hx' with h' | h' | h' | h' | h'<;>subst h'<;>first | exact ha.x | exact ha.y | (exact absurd h (by decide))
   | 4,_=>simp [atmsE] at hx';rcases hx' with h' | h' | h'<;>subst h'<;>first | exact ha.x | exact ha.y | (exact absurd h (by decide))
   | 5,_=>simp [atmsE] at hx';subst hx';exact absurd h (by decide)
  ·intro x hx h
   have hx':=hx
   match i,hi with
   | 0,_=>simp [atmsE] at hx';rcases hx' with h' | h' | h'<;>subst h'<;>exact absurd h (by decide)
   | 1,_=>simp [atmsE] at hx';subst hx';exact ha.pa
   | 2,_=>simp [atmsE] at hx';rcases hx' with h' | h' | h'<;>subst h'<;>exact absurd h (by decide)
   | 3,_=>simp [atmsE] at hx';rcases hx' with h' | h' | h' | h' | h'<;>subst h'<;>first | exact ha.qb | (exact absurd h (by decide))
   | 4,_=>simp [atmsE] at hx';rcases hx' with h' | h' | h'<;>subst h'<;>exact absurd h (by decide)
   | 5,_=>simp [atmsE] at hx';subst hx';exact ha.pb
 unfold knB
 rw [key]
 rfl
theorem qcg (hg:smallG vs ps) (ha:hasAll vs ps):∀ s:Sen,s.ok→knA vs ps ts s.tree.flat=true
 | .con b,_=>by cases b<;>rfl
 | .atm i,h=>by
   have:=atm_known ts hg ha h
   unfold knA
   simp only [Sen.tree,Fm.flat,List.all_cons,List.all_nil,if_true,this,Bool.and_self]
 | .una k s,h=>by
   have:=qcg hg ha s h.2.2
   have hk:k≠3:=by rcases h.1 with h | h | h | h<;>rw [h]<;>decide
   unfold knA at this ⊢
   simp only [Sen.tree,Fm.flat,List.all_append,this,List.all_cons,List.all_nil,hk,if_false,Bool.and_self]
 | .bra s,h=>qcg hg ha s h
 | .bin k a b,h=>by
   have h1:=qcg hg ha a h.2.2.2.2.1
   have h2:=qcg hg ha b h.2.2.2.2.2
   have hk:k≠3:=by rcases h.1 with h | h | h | h | h<;>rw [h]<;>decide
   unfold knA at h1 h2 ⊢
   simp only [Sen.tree,Fm.flat,List.all_append,h1,h2,List.all_cons,List.all_nil,hk,if_false,Bool.and_self]
end
def gT:Nat→Nat
 | 0=>20
 | h+1=>2*gT h+10
def gD:Nat→Nat
 | 0=>14
 | h+1=>2*gD h+14
def SOk (l:List Int) (o:Option (List UInt8×List Int×Int)) (a b c t d:Nat):Prop:=∃ (s:Sen) (a':Nat),o=some (s.text,l,(a':Int))∧s.text.length≤b∧a≤a'∧a'≤a+c∧s.ok∧s.lv=5∧s.toks.length≤t∧s.deep≤d
theorem sen_k (l:List Int) (deep:Int) (d:Nat) (dp0:Int) (l0:List Int) (a0:Int) (B A T D:Nat) (hB:B≤300) (hA:A≤45) (k:Nat) (hk:k<22) (V:Nat) (hV:V≤900) (hrec:k<18→∀ a:Nat,a≤V→SOk l (Rec50 d (IntKind.wrap IntKind.i64 (deep+1)) l a) a B A T D) (a:Nat) (ha:a+60≤V) (n:Nat) :
  SOk l (R50 M94 (Rec50 d) deep l0 a0 (n+1) (.l1004 k l a)) a (2*B+20) (2*A+2) (2*T+10) (2*D+14):=by
 show SOk l (T50 Ops.std M94 (Rec50 d) deep l0 a0 _ some _) a _ _ _ _
 unfold T50
 simp only [qad,qak,qag,qal,qaa,mt]
 by_cases h3:(k:Int)<3
 ·obtain ⟨s,a1,e1,e2,e3,e4,o1,o2,o3,o4⟩:=hrec (by omega) a (by omega)
  rw [if_pos h3,e1,ob_s]
  dsimp only
  simp only [List.length_append,List.length_cons,List.length_nil]
  rw [if_pos (by omega),if_pos (by omega)]
  refine ⟨.una 12 (.bra s),a1,by simp [Sen.text,unaW,binW],?_,by omega,by omega,⟨.inr (.inr (.inr rfl)),rfl,o1⟩,rfl,?_,?_⟩<;>simp [Sen.text,Sen.toks,Sen.deep,unaW,binW]<;>omega
 ·rw [if_neg h3]
  by_cases h6:(k:Int)<6
  ·obtain ⟨s,a1,e1,e2,e3,e4,o1,o2,o3,o4⟩:=hrec (by omega) a (by omega)
   rw [if_pos h6,e1,ob_s]
   dsimp only
   simp only [List.length_append,List.length_cons,List.length_nil]
   rw [if_pos (by omega),if_pos (by omega)]
   refine ⟨.una 11 (.bra s),a1,by simp [Sen.text,unaW,binW],?_,by omega,by omega,⟨.inr (.inr (.inl rfl)),rfl,o1⟩,rfl,?_,?_⟩<;>simp [Sen.text,Sen.toks,Sen.deep,unaW,binW]<;>omega
  ·rw [if_neg h6]
   by_cases h8:(k:Int)<8
   ·obtain ⟨s,a1,e1,e2,e3,e4,o1,o2,o3,o4⟩:=hrec (by omega) a (by omega)
    rw [if_pos h8,e1,ob_s]
    dsimp only
    rw [if_pos (by omega)]
    refine ⟨.una 8 s,a1,by simp [Sen.text,unaW,binW],?_,by omega,by omega,⟨.inr (.inl rfl),o2,o1⟩,rfl,?_,?_⟩<;>simp [Sen.text,Sen.toks,Sen.deep,unaW,binW]<;>omega
   ·rw [if_neg h8]
    by_cases h11:(k:Int)<11
    ·obtain ⟨s,a1,e1,e2,e3,e4,o1,o2,o3,o4⟩:=hrec (by omega) a (by omega)
     rw [if_pos h11,e1,ob_s]
     dsimp only
     obtain ⟨j,a2,g1,g2,g3,g4⟩:=qcq l 0 a1 (by omega) 2 (by omega) (by omega)
     have g4':M94 2 l (a1:Int)=some ((j:Int),l,(a2:Int)):=g4
     rw [if_pos (by omega),g4',ob_s]
     dsimp only
     rw [if_pos (by omega)]
     obtain ⟨s2,a3,f1,f2,f3,f4,u1,u2,u3,u4⟩:=hrec (by omega) a2 (by omega)
     have hlen:=qar (n:=3) (l:=[([32,85,32]:List UInt8),([32,82,32]:List UInt8)]) rfl (Int.toNat (j:Int))
     generalize hxd':([([32,85,32]:List UInt8),([32,82,32]:List UInt8)]:List (List UInt8)).getD (Int.toNat (j:Int)) []=x at hlen ⊢
     simp only [List.length_append,List.length_cons,List.length_nil]
     rw [if_pos (by omega),f1,ob_s]
     dsimp only
     rw [if_pos (by omega),if_pos (by omega)]
     have hj:j=0∨j=1:=by omega
     rcases hj with rfl | rfl
     ·have hx:x=[32,85,32]:=hxd'.symm
      refine ⟨.bra (.bin 9 s s2),a3,by simp [Sen.text,unaW,binW,hx],?_,by omega,by omega,⟨.inr (.inr (.inr (.inl rfl))),by rw [o2];decide,by rw [u2];decide,by rw [u2];decide,o1,u1⟩,rfl,?_,?_⟩<;>simp [Sen.text,Sen.toks,Sen.deep,unaW,binW]<;>omega
     ·have hx:x=[32,82,32]:=hxd'.symm
      refine ⟨.bra (.bin 10 s s2),a3,by simp [Sen.text,unaW,binW,hx],?_,by omega,by omega,⟨.inr (.inr (.inr (.inr rfl))),by rw [o2];decide,by rw [u2];decide,by rw [u2];decide,o1,u1⟩,rfl,?_,?_⟩<;>simp [Sen.text,Sen.toks,Sen.deep,unaW,binW]<;>omega
    ·rw [if_neg h11]
     by_cases h15:(k:Int)<15
     ·obtain ⟨s,a1,e1,e2,e3,e4,o1,o2,o3,o4⟩:=hrec (by omega) a (by omega)
      rw [if_pos h15,e1,ob_s]
      dsimp only
      obtain ⟨j,a2,g1,g2,g3,g4⟩:=qcq l 0 a1 (by omega) 3 (by omega) (by omega)
      have g4':M94 3 l (a1:Int)=some ((j:Int),l,(a2:Int)):=g4
      rw [if_pos (by omega),g4',ob_s]
      dsimp only
      rw [if_pos (by omega)]
      obtain ⟨s2,a3,f1,f2,f3,f4,u1,u2,u3,u4⟩:=hrec (by omega) a2 (by omega)
      have hlen:=qar (n:=4) (l:=[([32,38,38,32]:List UInt8),([32,124,124,32]:List UInt8),([32,45,62,32]:List UInt8)]) rfl (Int.toNat (j:Int))
      generalize hxd':([([32,38,38,32]:List UInt8),([32,124,124,32]:List UInt8),([32,45,62,32]:List UInt8)]:List (List UInt8)).getD (Int.toNat (j:Int)) []=x at hlen ⊢
      simp only [List.length_append,List.length_cons,List.length_nil]
      rw [if_pos (by omega),f1,ob_s]
      dsimp only
      rw [if_pos (by omega),if_pos (by omega)]
      have hj:j=0∨j=1∨j=2:=by omega
      rcases hj with rfl | rfl | rfl
      ·have hx:x=[32,38,38,32]:=hxd'.symm
       refine ⟨.bra (.bin 5 s s2),a3,by simp [Sen.text,unaW,binW,hx],?_,by omega,by omega,⟨.inl rfl,by rw [o2];decide,by rw [u2];decide,by rw [u2];decide,o1,u1⟩,rfl,?_,?_⟩<;>simp [Sen.text,Sen.toks,Sen.deep,unaW,binW]<;>omega
      ·have hx:x=[32,124,124,32]:=hxd'.symm
       refine ⟨.bra (.bin 6 s s2),a3,by simp [Sen.text,unaW,binW,hx],?_,by omega,by omega,⟨.inr (.inl rfl),by rw [o2];decide,by rw [u2];decide,by rw [u2];decide,o1,u1⟩,rfl,?_,?_⟩<;>simp [Sen.text,Sen.toks,Sen.deep,unaW,binW]<;>omega
      ·have hx:x=[32,45,62,32]:=hxd'.symm
       refine ⟨.bra (.bin 7 s s2),a3,by simp [Sen.text,unaW,binW,hx],?_,by omega,by omega,⟨.inr (.inr (.inl rfl)),by rw [o2];decide,by rw [u2];decide,by rw [u2];decide,o1,u1⟩,rfl,?_,?_⟩<;>simp [Sen.text,Sen.toks,Sen.deep,unaW,binW]<;>omega
     ·rw [if_neg h15]
      by_cases h17:(k:Int)<17
      ·obtain ⟨s,a1,e1,e2,e3,e4,o1,o2,o3,o4⟩:=hrec (by omega) a (by omega)
       rw [if_pos h17,e1,ob_s]
       dsimp only
       rw [if_pos (by omega)]
       refine ⟨.una 4 s,a1,by simp [Sen.text,unaW,binW],?_,by omega,by omega,⟨.inl rfl,o2,o1⟩,rfl,?_,?_⟩<;>simp [Sen.text,Sen.toks,Sen.deep,unaW,binW]<;>omega
      ·rw [if_neg h17]
       by_cases h17':(k:Int)=17
       ·obtain ⟨s,a1,e1,e2,e3,e4,o1,o2,o3,o4⟩:=hrec (by omega) a (by omega)
        rw [if_pos h17',e1,ob_s]
        dsimp only
        rw [if_pos (by omega)]
        refine ⟨.una 12 (.una 11 s),a1,by simp [Sen.text,unaW,binW],?_,by omega,by omega,⟨.inr (.inr (.inr rfl)),rfl,.inr (.inr (.inl rfl)),o2,o1⟩,rfl,?_,?_⟩<;>simp [Sen.text,Sen.toks,Sen.deep,unaW,binW]<;>omega
       ·rw [if_neg h17']
        by_cases h18:(k:Int)=18
        ·rw [if_pos h18]
         obtain ⟨j,a2,g1,g2,g3,g4⟩:=qcq l 0 a (by omega) 2 (by omega) (by omega)
         have g4':M94 2 l (a:Int)=some ((j:Int),l,(a2:Int)):=g4
         rw [g4',ob_s]
         dsimp only
         rw [if_pos (by omega)]
         have hlen:=qar (n:=5) (l:=[([116,114,117,101]:List UInt8),([102,97,108,115,101]:List UInt8)]) rfl (Int.toNat (j:Int))
         have hj:j=0∨j=1:=by omega
         rcases hj with rfl | rfl
         ·exact ⟨.con true,a2,rfl,by simp [Sen.text,conW],by omega,by omega,trivial,rfl,by simp [Sen.toks],by simp [Sen.deep]⟩
         ·exact ⟨.con false,a2,rfl,by simp [Sen.text,conW],by omega,by omega,trivial,rfl,by simp [Sen.toks],by simp [Sen.deep]⟩
        ·rw [if_neg h18]
         obtain ⟨j,a2,g1,g2,g3,g4⟩:=qcq l 0 a (by omega) 6 (by omega) (by omega)
         have g4':M94 6 l (a:Int)=some ((j:Int),l,(a2:Int)):=g4
         rw [g4',ob_s]
         dsimp only
         rw [if_pos (by omega)]
         have hlen:=qar (n:=10) (l:=[([91,120,61,61,49,93]:List UInt8),([91,112,64,97,93]:List UInt8),([91,121,60,49,93]:List UInt8),([91,113,64,98,38,38,120,62,48,93]:List UInt8),([91,120,61,61,121,93]:List UInt8),([91,112,64,98,93]:List UInt8)]) rfl (Int.toNat (j:Int))
         have hj:j=0∨j=1∨j=2∨j=3∨j=4∨j=5:=by omega
         rcases hj with rfl | rfl | rfl | rfl | rfl | rfl
         ·exact ⟨.atm 0,a2,rfl,by simp [Sen.text,atmsW],by omega,by omega,(by decide:0<6),rfl,by simp [Sen.toks,atmsT],by simp [Sen.deep]⟩
         ·exact ⟨.atm 1,a2,rfl,by simp [Sen.text,atmsW],by omega,by omega,(by decide:1<6),rfl,by simp [Sen.toks,atmsT],by simp [Sen.deep]⟩
         ·exact ⟨.atm 2,a2,rfl,by simp [Sen.text,atmsW],by omega,by omega,(by decide:2<6),rfl,by simp [Sen.toks,atmsT],by simp [Sen.deep]⟩
         ·exact ⟨.atm 3,a2,rfl,by simp [Sen.text,atmsW],by omega,by omega,(by decide:3<6),rfl,by simp [Sen.toks,atmsT],by simp [Sen.deep]⟩
         ·exact ⟨.atm 4,a2,rfl,by simp [Sen.text,atmsW],by omega,by omega,(by decide:4<6),rfl,by simp [Sen.toks,atmsT],by simp [Sen.deep]⟩
         ·exact ⟨.atm 5,a2,rfl,by simp [Sen.text,atmsW],by omega,by omega,(by decide:5<6),rfl,by simp [Sen.toks,atmsT],by simp [Sen.deep]⟩
theorem sen_h (l:List Int):∀ (h:Nat),h≤3→∀ (d:Nat),h<d→∀ (a:Nat),a≤400-100*h→SOk l (Rec50 d ((3-h:Nat):Int) l a) a (fB h) (fA h) (gT h) (gD h):=by
 intro h
 induction h with
 | zero=>
   intro hh d hd a ha
   obtain ⟨e,rfl⟩:∃ e,d=e+1:=⟨d-1,by omega⟩
   show SOk l (T50 Ops.std M94 (Rec50 e) ((3-0:Nat):Int) l a (R50 M94 (Rec50 e) ((3-0:Nat):Int) l a 1000000) some none) a _ _ _ _
   unfold T50
   obtain ⟨k,a1,e1,e2,e3,e4⟩:=qcq l 0 a (by omega) 22 (by omega) (by omega)
   have e4':M94 22 l (a:Int)=some ((k:Int),l,(a1:Int)):=e4
   rw [e4',ob_s]
   simp only [qad,qak,qaa]
   rw [if_pos (by omega),if_neg (by omega)]
   have ht:Int.tmod (k:Int) 4=((k % 4:Nat):Int):=by rw [show (4:Int)=((4:Nat):Int) from rfl,←Int.ofNat_tmod]
   rw [ht,show IntKind.wrap IntKind.i64 (18+((k % 4:Nat):Int))=((18+k % 4:Nat):Int) by rw [wrap64 (by omega) (by omega)];omega]
   have:=sen_k l ((3-0:Nat):Int) e ((3-0:Nat):Int) l (a:Int) 0 0 0 0 (by omega) (by omega) (18+k % 4) (by omega) 900 (by omega) (fun h=>by omega) a1 (by omega) 999999
   obtain ⟨s,a',g1,g2,g3,g4,g5,g6,g7,g8⟩:=this
   exact ⟨s,a',g1,by simp [fB];omega,by omega,by simp [fA];omega,g5,g6,by simp [gT];omega,by simp [gD];omega⟩
 | succ h ih=>
   intro hh d hd a ha
   obtain ⟨e,rfl⟩:∃ e,d=e+1:=⟨d-1,by omega⟩
   have hb:=fB_le h (by omega)
   show SOk l (T50 Ops.std M94 (Rec50 e) ((3-(h+1):Nat):Int) l a (R50 M94 (Rec50 e) ((3-(h+1):Nat):Int) l a 1000000) some none) a _ _ _ _
   unfold T50
   obtain ⟨k,a1,e1,e2,e3,e4⟩:=qcq l 0 a (by omega) 22 (by omega) (by omega)
   have e4':M94 22 l (a:Int)=some ((k:Int),l,(a1:Int)):=e4
   rw [e4',ob_s]
   simp only [qad,qak,qaa]
   rw [if_neg (by omega)]
   have hdeep:IntKind.wrap IntKind.i64 (((3-(h+1):Nat):Int)+1)=((3-h:Nat):Int):=by rw [wrap64 (by omega) (by omega)];omega
   have hrec:∀ a:Nat,a≤400-100*h→SOk l (Rec50 e (IntKind.wrap IntKind.i64 (((3-(h+1):Nat):Int)+1)) l a) a (fB h) (fA h) (gT h) (gD h):=fun a ha=>by
    rw [hdeep];exact ih (by omega) e (by omega) a ha
   have step:=fun (k:Nat) (hk:k<22)=>sen_k l ((3-(h+1):Nat):Int) e ((3-(h+1):Nat):Int) l (a:Int) (fB h) (fA h) (gT h) (gD h) (by omega) (by omega) k hk (400-100*h) (by omega) (fun _=>hrec) a1 (by omega) 999999
   have fin:∀ o,SOk l o a1 (2*fB h+20) (2*fA h+2) (2*gT h+10) (2*gD h+14)→SOk l o a (fB (h+1)) (fA (h+1)) (gT (h+1)) (gD (h+1)):=fun o ho=>by
    obtain ⟨s,a',g1,g2,g3,g4,g5,g6,g7,g8⟩:=ho
    exact ⟨s,a',g1,by simp only [fB];omega,by omega,by simp only [fA];omega,g5,g6,by simp only [gT];omega,by simp only [gD];omega⟩
   have ht:Int.tmod (k:Int) 4=((k % 4:Nat):Int):=by rw [show (4:Int)=((4:Nat):Int) from rfl,←Int.ofNat_tmod]
   split
   ·rw [if_neg (by omega),ht,show IntKind.wrap IntKind.i64 (18+((k % 4:Nat):Int))=((18+k % 4:Nat):Int) by rw [wrap64 (by omega) (by omega)];omega]
    exact fin _ (step (18+k % 4) (by omega))
   ·exact fin _ (step k e1)
theorem formula_sen (l:List Int):∃ s:Sen,M15 l=some s.text∧s.ok∧s.lv=5∧s.text.length≤300∧s.toks.length≤240∧s.deep≤300:=by
 obtain ⟨s,a',e1,e2,e3,e4,e5,e6,e7,e8⟩:=sen_h l 3 (by omega) 1000000 (by omega) 0 (by omega)
 refine ⟨s,?_,e5,e6,Nat.le_trans e2 (by decide),Nat.le_trans e7 (by decide),Nat.le_trans e8 (by decide)⟩
 show T15 Ops.std M50 l some=_
 unfold T15
 have e1':M50 0 l 0=some (s.text,l,(a':Int)):=e1
 rw [e1',ob_s]
section
variable {vs:List Vrb} {ps:List Pcs} {ts:List Trn} (hM:smallM vs ps ts)
include hM
end
section
variable {n back n' back':Nat} (hb:back<n) (hb':back'<n') (h:Nat→Nat) (hn:∀ i,i<n'→h i<n) (hx:∀ i,i<n'→h (nx n' back' i)=nx n back (h i))
include hb hb' hn hx
end
section
variable (vs:List Vrb) (ps:List Pcs) (ts:List Trn) (st:List Stp) (back:Nat) (hn:st.length≤100)
variable (f g:List Bool) (release:Bool)
end
section
variable {vs:List Vrb} {ps:List Pcs} (ts:List Trn)
end
section
variable {vs:List Vrb} {ps:List Pcs} {ts:List Trn}
end
section
variable {vs:List Vrb} {ps:List Pcs} {ts:List Trn}
end
theorem Sen.wf:∀ s:Sen,s.ok→WF s.tree
 | .con b,_=>by cases b<;>exact ⟨rfl,(fun h=>absurd h (by decide)),fun _=>rfl⟩
 | .atm i,h=>by
   have h:i<6:=h
   match i,h with
   | 0,_ | 1,_ | 2,_ | 3,_ | 4,_ | 5,_=>exact ⟨rfl,fun _=>by decide,fun h=>absurd rfl h⟩
 | .una k s,h=>⟨by rcases h.1 with rfl | rfl | rfl | rfl<;>rfl,rfl,s.wf h.2.2⟩
 | .bra s,h=>s.wf h
 | .bin k a b,h=>⟨by rcases h.1 with rfl | rfl | rfl | rfl | rfl<;>rfl,rfl,a.wf h.2.2.2.2.1,b.wf h.2.2.2.2.2⟩
section
variable {n back:Nat} (V:List Trm→Nat→Bool)
end
section
variable (vs:List Vrb) (ps:List Pcs) (ts:List Trn)
end
theorem qch {k:Int} (h:k≠3) (no:Bool):sgn k no≠3:=by
 unfold sgn otherK
 repeat' split
 all_goals omega
theorem nnf_all {E:List Trm→Bool} {P:Prt→Prop} (hP:∀ k:Int,k≠3→P (k,[])) {t:Fm Trm}:t.wf E→(∀ p∈t.flat,P p)→∀ no,∀ p∈(nnfT t no).flat,P p:=by
 induction t with
 | nul p=>
   intro hw h no
   have hp:P p:=h p (List.mem_singleton_self _)
   have h0:=opn0 hw.1
   simp only [nnfT]
   by_cases h3:p.1=3
   ·rw [if_pos h3]
    split
    ·intro q hq
     simp only [Fm.flat,List.mem_append,List.mem_singleton] at hq
     rcases hq with rfl | rfl
     ·exact hp
     ·exact hP _ (by omega)
    ·intro q hq
     simp only [Fm.flat,List.mem_singleton] at hq
     rw [hq];exact hp
   ·rw [if_neg h3]
    intro q hq
    simp only [Fm.flat,List.mem_singleton] at hq
    rw [hq];exact hP _ (qch h3 no)
 | un p a ih=>
   intro hw h no
   have ha:=ih hw.2.2 fun q hq=>h q (List.mem_append.mpr (.inl hq))
   have h1:=opn1 hw.1
   simp only [nnfT]
   split
   ·exact ha _
   ·split
    ·intro q hq
     simp only [Fm.flat,List.mem_append,List.mem_singleton] at hq
     rcases hq with (rfl | hq) | rfl
     ·exact hP _ (qch (by omega) no)
     ·exact ha _ q hq
     ·exact hP _ (qch (by omega) no)
    ·split
     ·intro q hq
      simp only [Fm.flat,List.mem_append,List.mem_singleton] at hq
      rcases hq with (rfl | hq) | rfl
      ·exact hP _ (qch (by omega) no)
      ·exact ha _ q hq
      ·exact hP _ (qch (by omega) no)
     ·intro q hq
      simp only [Fm.flat,List.mem_append,List.mem_singleton] at hq
      rcases hq with hq | rfl
      ·exact ha _ q hq
      ·exact hP _ (qch (by omega) no)
 | bi p a b iha ihb=>
   intro hw h no
   have ha:=iha hw.2.2.1 fun q hq=>h q (List.mem_append.mpr (.inl (List.mem_append.mpr (.inl hq))))
   have hb:=ihb hw.2.2.2 fun q hq=>h q (List.mem_append.mpr (.inl (List.mem_append.mpr (.inr hq))))
   have h2:=opn2 hw.1
   simp only [nnfT]
   split
   ·intro q hq
    simp only [Fm.flat,List.mem_append,List.mem_singleton] at hq
    rcases hq with (hq | hq) | rfl
    ·exact ha _ q hq
    ·exact hb _ q hq
    ·exact hP _ (qch (by omega) no)
   ·intro q hq
    simp only [Fm.flat,List.mem_append,List.mem_singleton] at hq
    rcases hq with (hq | hq) | rfl
    ·exact ha _ q hq
    ·exact hb _ q hq
    ·exact hP _ (qch (by omega) no)
theorem qd4 (e:List Int) (hl:e.length<900000):∀ (t i n:Nat),i+t=e.length→t<n→R27 e e n (.l0 i)=some true
 | t,i,0,hi,hn=>by omega
 | 0,i,n+1,hi,hn=>by
   show T27 Ops.std e e _ some _=_
   unfold T27
   simp only [qad,qaa]
   rw [if_neg (by omega)]
 | t+1,i,n+1,hi,hn=>by
   have ih:=qd4 e hl t (i+1) n (by omega) (by omega)
   show T27 Ops.std e e _ some _=_
   unfold T27
   have hin:(0:Int)≤i∧(i:Int)<(e.length:Int):=by omega
   simp only [qad,qag,qak,qaa,qab,decide_true,Bool.not_true,cond_false,if_pos hin]
   rw [if_pos hin.2,show IntKind.wrap IntKind.i64 ((i:Int)+1)=((i+1:Nat):Int) from qaf (by omega)]
   exact ih
theorem qd5 (e:List Int) (hl:e.length<900000):M27 e e=some true:=by
 show T27 Ops.std e e (R27 e e 1000000) some none=_
 unfold T27
 simp only [qak,decide_true,Bool.not_true,cond_false]
 exact qd4 e hl e.length 0 1000000 (by omega) (by omega)
section
variable {vs:List Vrb} {ps:List Pcs} {ts:List Trn}
noncomputable abbrev mkRR (vs:List Vrb) (ps:List Pcs) (ts:List Trn) (f:List Prt) (s1 s2:List Int):=R36 M23 M32 vs ps ts f s1 s2
theorem mkR_loop (hg:smallG vs ps) {t:Fm Trm} (ht:WF t) (h60:t.size≤60) (hp:(prL t.flat).length≤6) (s1 s2:List Int):∀ (k i n:Nat) (out:List Int),i+k=2 ^ (prL t.flat).length→k<n→out.length≤i→
  mkRR vs ps ts t.flat s1 s2 n (.l0 i out)=some (out++mkF (hasM vs ps ts t s1 s2) i k)
 | k,i,0,out,hi',hn,ho=>by omega
 | 0,i,n+1,out,hi',hn,ho=>by
   have h64:=qa7 hp
   show T36 Ops.std _ _ vs ps ts t.flat s1 s2 _ some _=_
   unfold T36
   dsimp only
   rw [qe3 t.flat (by rw [t.flat_len];omega),ob_s,qc7 _ (by omega)]
   simp only [qad,qaa,cond_true,shl_one _ hp]
   rw [if_neg (by omega),if_neg (by omega)]
   simp [mkF]
 | k+1,i,n+1,out,hi',hn,ho=>by
   have h64:=qa7 hp
   have hs:=t.size_pos
   have ih:=fun out ho=>mkR_loop hg ht h60 hp s1 s2 k (i+1) n out (by omega) (by omega) ho
   have hl:=qe5 (vs:=vs) (ps:=ps) ts t s1 s2 i
   have hw:IntKind.wrap IntKind.i64 ((t.size:Int)-1)=((t.size-1:Nat):Int):=by rw [wrap64 (by omega) (by omega)];omega
   have hh:(tvM vs ps ts t s1 s2 i).getD (t.size-1) (Ty.dflt ty4)=hasM vs ps ts t s1 s2 i:=rfl
   show T36 Ops.std _ _ vs ps ts t.flat s1 s2 _ some _=_
   unfold T36
   dsimp only
   rw [qe3 t.flat (by rw [t.flat_len];omega),ob_s,qc7 _ (by omega)]
   simp only [qad,qag,qal,qaa,cond_true,shl_one _ hp,qab,qe6 ts hg ht h60 hp s1 s2 i (by omega),ob_s,hl,hw,hh,mt,List.length_cons,List.length_nil,show IntKind.wrap IntKind.i64 ((i:Int)+1)=((i+1:Nat):Int) from qaf (by omega)]
   rw [if_neg (by omega),if_pos (by omega),if_pos (by omega),mkF]
   cases hq:hasM vs ps ts t s1 s2 i with
   | true=>
     simp only [cond_true,if_true]
     rw [if_pos (by omega)]
     exact (ih _ (by simp;omega)).trans (by simp)
   | false=>
     simp only [cond_false,Bool.false_eq_true,if_false]
     exact ih _ (by omega)
theorem MasksR_ok (hg:smallG vs ps) {t:Fm Trm} (ht:WF t) (h60:t.size≤60) (hp:(prL t.flat).length≤6) (s1 s2:List Int):M36 vs ps ts t.flat s1 s2=some (masksL vs ps ts t s1 s2):=by
 have h64:=qa7 hp
 show T36 Ops.std M23 M32 vs ps ts t.flat s1 s2 (mkRR vs ps ts t.flat s1 s2 1000000) some none=_
 unfold T36
 exact (mkR_loop hg ht h60 hp s1 s2 (2 ^ (prL t.flat).length) 0 1000000 [] (by omega) (by omega) (by simp)).trans rfl
theorem TruthP_over (hg:smallG vs ps) {t:Fm Trm} (ht:WF t) (hi:isT t=true) (h60:t.size≤60) (hp:(prL t.flat).length≤6) (hk:knA vs ps ts t.flat=true) (s1 s2:List Int):M31 vs ps ts t.flat ((2 ^ (prL t.flat).length:Nat):Int) s1 s2=some []:=by
 have hfl:=t.flat_len
 have h64:=qa7 hp
 have ho:=shr_over (prL t.flat).length hp (2 ^ (prL t.flat).length) (by omega)
 rw [decide_eq_true (Nat.le_refl _)] at ho
 show T31 Ops.std M26 M67 M52 M68 M69 vs ps ts t.flat ((2 ^ (prL t.flat).length:Nat):Int) s1 s2 (trP vs ps ts t.flat (2 ^ (prL t.flat).length) s1 s2 1000000) some none=_
 unfold T31
 rw [prP_T ht hi h60 hp,ob_s,qfx ts hg t.flat (by omega) (wf_atm ht) (qc2 ht h60),ob_s,hk]
 simp only [qak,qad,qao,qaa,cond_false,Bool.not_true]
 have hp0:(0:Int)≤((2 ^ (prL t.flat).length:Nat):Int):=Int.natCast_nonneg _
 rw [if_neg (by simp),if_neg (by omega),if_neg (by omega),if_pos (of_decide_eq_true ho)]
end
theorem of17_sen (s:Sen) (h:s.ok) (ht:s.toks.length≤990) (hd:s.deep≤100000) (hl:s.text.length≤60000):∃ f,M25 s.text=some f∧(f=[]∨(f=s.tree.flat∧s.tree.size≤24)):=by
 obtain ⟨e,x,f,h1,h2⟩:=s.parse h ht hd hl
 refine ⟨f,?_,?_⟩
 ·show T25 Ops.std M45 s.text some=_
  unfold T25
  rw [h1,ob_s]
 ·rcases h2 with ⟨_,h2,h3⟩ | ⟨_,h2,_⟩
  ·exact .inr ⟨h2,by rw [←s.tree.flat_len];exact h3⟩
  ·exact .inl h2
def nfSen (s:Sen) (c:List Prt):Prop:=c=[]∨∃ no,c=(nnfT s.tree no).flat∧(nnfT s.tree no).size≤60
theorem nf_sen {s:Sen} (h:s.ok) {f:List Prt} (hf:f=[]∨(f=s.tree.flat∧s.tree.size≤24)):∃ a b:List Prt,M13 f=some a∧M16 f=some b∧nfSen s a∧nfSen s b:=by
 rcases hf with h0 | ⟨rfl,h24⟩
 ·obtain ⟨h1,h2⟩:=N_NnfR (f:=f) (by rw [h0];simp) (by rw [h0];intro p hp;cases hp) (by rw [h0];rfl)
  exact ⟨[],[],h1,h2,.inl rfl,.inl rfl⟩
 ·have key:∀ no,nfSen s (nnfL s.tree no):=fun no=>by
   unfold nnfL
   by_cases hs:(nnfT s.tree no).size≤60
   ·rw [if_pos hs];exact .inr ⟨no,rfl,hs⟩
   ·rw [if_neg hs];exact .inl rfl
  exact ⟨_,_,T_NnfR (s.wf h) (by omega),T_NegateR (s.wf h) (by omega),key false,key true⟩
theorem nfSen.len {s:Sen} {c:List Prt} (h:nfSen s c):c.length≤60:=by
 rcases h with h | ⟨no,h,h6⟩
 ·rw [h];simp
 ·rw [h,Fm.flat_len];exact h6
theorem few_sen (p0:List Int) (p1:Bool) {s:Sen} (h:s.ok) {f:List Prt} (hs:M15 p0=some s.text) (hf:M25 s.text=some f) (hf2:f=[]∨(f=s.tree.flat∧s.tree.size≤24)):∃ g,M28 p0 p1=some g∧(g=[]∨(nfSen s g∧(prL g).length≤6)):=by
 obtain ⟨a,b,ha,hb,ha2,hb2⟩:=nf_sen h hf2
 have key:∀ c:List Prt,nfSen s c→∃ g,(ob (M23 c) fun y=>if (6:Int)<((y.length:Nat):Int) then some (mt (Ty.den ty66)) else some c)=some g∧(g=[]∨(nfSen s g∧(prL g).length≤6)):=fun c hc=>by
  have hl:=hc.len
  rw [qe3 c (by omega),ob_s]
  by_cases h6:(6:Int)<(((prL c).length:Nat):Int)
  ·rw [if_pos h6];exact ⟨_,rfl,.inl rfl⟩
  ·rw [if_neg h6];exact ⟨_,rfl,.inr ⟨hc,by omega⟩⟩
 show ∃ g,T28 Ops.std M15 M25 M13 M16 M23 p0 p1 some=some g∧_
 unfold T28
 rw [hs,ob_s,hf,ob_s,ha,ob_s]
 cases p1 with
 | true=>
   simp only [cond_true,ob_s,hf,hb,qad,qaa]
   exact key b hb2
 | false=>
   simp only [cond_false,qad,qaa]
   exact key a ha2
section
variable (p0:List Int) (p1:Bool) (p2 p3:Int) (p4:List (List Int)) (p5 p6 p7 p8:Int)
noncomputable abbrev ttR:=R4 M24 M12 M15 M25 M13 M26 M23 M27 M28 M18 M29 M30 M31 M32 M33 M34 M35 M36 p0 p1 p2 p3 p4 p5 p6 p7 p8
variable {vs:List Vrb} {ps:List Pcs} {ts:List Trn}
theorem tt_l0 (hg:smallG vs ps) {t:Fm Trm} (ht:WF t) (hi:isT t=true) (h60:t.size≤60) (hp:(prL t.flat).length≤6) (hk:knA vs ps ts t.flat=true) (s1 s2 o1 o2:List Int) (m o:Nat) (hm:m<2 ^ (prL t.flat).length) :
  ∀ (k i n:Nat),i+k=t.size→k<n→ttR p0 p1 p2 p3 p4 p5 p6 p7 p8 n (.l0 (m:Int) ((2 ^ (prL t.flat).length:Nat):Int) ((t.size:Nat):Int) (i:Nat) vs ps ts t.flat s1 s2 (tvM vs ps ts t s1 s2 m) (tvM vs ps ts t s1 s2 m) (tvM vs ps ts t o1 o2 o))=some true
 | k,i,0,hi',hn=>by omega
 | 0,i,n+1,hi',hn=>by
   have h64:=qa7 hp
   show T4 Ops.std _ _ _ _ _ _ _ _ _ _ _ _ _ _ _ _ _ _ p0 p1 p2 p3 p4 p5 p6 p7 p8 _ some _=_
   unfold T4
   simp only [qad,qaa]
   rw [if_neg (by omega),known17,ob_s]
   simp only [cond_true]
   have hnx:=qe5 (vs:=vs) (ps:=ps) ts t o1 o2 o
   obtain ⟨b1,e1,f1⟩:=FitsP_ok ht hi h60 hp m hm (tvM vs ps ts t o1 o2 o) hnx
   obtain ⟨b2,e2,f2⟩:=FitsR_ok ht h60 hp m (by omega) (tvM vs ps ts t o1 o2 o) hnx
   have hb:b1=b2:=by
    rw [Bool.eq_iff_iff,f1,f2]
   subst hb
   have hml:(masksL vs ps ts t s1 s2).length≤64:=by
    have:=mkF_le (hasM vs ps ts t s1 s2) (2 ^ (prL t.flat).length) 0
    unfold masksL
    omega
   rw [e1,ob_s,e2,ob_s,beq_self_eq_true,cond_true,MasksP_ok hg ht hi h60 hp hk s1 s2,ob_s,MasksR_ok hg ht h60 hp s1 s2,ob_s,qd5 _ (by omega),ob_s,cond_true,TruthP_over hg ht hi h60 hp hk s1 s2,ob_s]
   rfl
 | k+1,i,n+1,hi',hn=>by
   have ih:=tt_l0 hg ht hi h60 hp hk s1 s2 o1 o2 m o hm k (i+1) n (by omega) (by omega)
   have hl:=qe5 (vs:=vs) (ps:=ps) ts t s1 s2 m
   show T4 Ops.std _ _ _ _ _ _ _ _ _ _ _ _ _ _ _ _ _ _ p0 p1 p2 p3 p4 p5 p6 p7 p8 _ some _=_
   unfold T4
   have hb:∀ b:Bool,(!b == b)=false:=fun b=>by cases b<;>rfl
   have hb':∀ b:Bool,(!(b == b))=false:=fun b=>by cases b<;>rfl
   simp only [qad,qag,qaa,qab,hl,show IntKind.wrap IntKind.i64 ((i:Int)+1)=((i+1:Nat):Int) from qaf (by omega),hb,hb',cond_false]
   rw [if_pos (by omega),if_pos (by omega)]
   first | exact ih | (rw [if_pos (by omega)];exact ih)
theorem tt_1016 (hM:smallM vs ps ts) (hG:goodM vs ps) {t:Fm Trm} (ht:WF t) (hi:isT t=true) (h60:t.size≤60) (hp:(prL t.flat).length≤6) (hk:knA vs ps ts t.flat=true) (n:Nat) (hn:100<n):ttR p0 p1 p2 p3 p4 p5 p6 p7 p8 n (.l1016 vs ps ts t.flat)=some true:=by
 obtain ⟨n,rfl⟩:∃ n',n=n'+1:=⟨n-1,by omega⟩
 have h64:=qa7 hp
 have hpos:0<2 ^ (prL t.flat).length:=Nat.two_pow_pos _
 show T4 Ops.std _ _ _ _ _ _ _ _ _ _ _ _ _ _ _ _ _ _ p0 p1 p2 p3 p4 p5 p6 p7 p8 _ some _=_
 unfold T4
 dsimp only
 rw [qe3 t.flat (by rw [t.flat_len];omega),ob_s,qc7 _ (by omega)]
 simp only [qad,qak,qao,qaa,cond_true,shl_one _ hp]
 obtain ⟨m,hm,e1⟩:=pickN p6 (2 ^ (prL t.flat).length) hpos (by omega)
 obtain ⟨o,ho,e2⟩:=pickN p8 (2 ^ (prL t.flat).length) hpos (by omega)
 obtain ⟨s,hs,_⟩:=State_ok (ts:=ts) hG p5
 obtain ⟨s',hs',_⟩:=State_ok (ts:=ts) hG p7
 have hl:=qe5 (vs:=vs) (ps:=ps) ts t s.1 s.2 m
 rw [if_neg (by omega),e1,ob_s,e2,ob_s,hs,ob_s,TruthP_ok hM.g ht hi h60 hp hk s.1 s.2 m hm,ob_s,qe6 ts hM.g ht h60 hp s.1 s.2 m (by omega),ob_s,hs',ob_s,qe6 ts hM.g ht h60 hp s'.1 s'.2 o (by omega),ob_s]
 simp only [not_true_eq_false,if_false,hl]
 exact tt_l0 p0 p1 p2 p3 p4 p5 p6 p7 p8 hM.g ht hi h60 hp hk s.1 s.2 s'.1 s'.2 m o hm t.size 0 n (by omega) (by omega)
end
theorem qfe:M18 [] [] []=some false:=by kernel_rfl
theorem plainTableauTells (p0:List Int) (p1:Bool) (p2 p3:Int) (p4:List (List Int)) (p5 p6 p7 p8:Int) (w0:Ty.wf ty22 p0) (w1:Ty.wf ty4 p1) (w2:Ty.wf ty3 p2) (w3:Ty.wf ty3 p3) (w4:Ty.wf ty23 p4) (w5:Ty.wf ty3 p5) (w6:Ty.wf ty3 p6) (w7:Ty.wf ty3 p7) (w8:Ty.wf ty3 p8):M4 p0 p1 p2 p3 p4 p5 p6 p7 p8=some true:=by
 show T4 Ops.std M24 M12 M15 M25 M13 M26 M23 M27 M28 M18 M29 M30 M31 M32 M33 M34 M35 M36 p0 p1 p2 p3 p4 p5 p6 p7 p8 (ttR p0 p1 p2 p3 p4 p5 p6 p7 p8 1000000) some none=_
 unfold T4
 obtain ⟨s,hs,so,sl,st,sk,sd⟩:=formula_sen p0
 obtain ⟨f,hf,hf2⟩:=of17_sen s so (by omega) (by omega) (by omega)
 obtain ⟨vs,ps,ts,hm,hro,hraw⟩:=Model_raw p2 p3 p4
 have hM:=hro.1
 obtain ⟨a,b,ha,_,ha2,_⟩:=nf_sen so hf2
 obtain ⟨g,hg,hg2⟩:=few_sen p0 p1 so hs hf hf2
 have hal:=ha2.len
 have hpr:=qe3 a (by omega)
 obtain ⟨b1,hb1,hb2⟩:∃ b1,M51 a=some b1∧(b1=false↔a=[]):=by
  rcases ha2 with h | ⟨no,h,h6⟩
  ·refine ⟨false,?_,by simp [h]⟩
   exact N_IsP (by rw [h];simp) (by rw [h];intro p hp;cases hp) (by rw [h];rfl)
  ·refine ⟨true,?_,?_⟩
   ·rw [h]
    have:=T_IsP (nnfT_wf (s.wf so) no) h6
    rw [nnfT_is (s.wf so) no] at this
    exact this
   ·have:=(nnfT s.tree no).size_pos
    have:=(nnfT s.tree no).flat_len
    constructor
    ·intro h;cases h
    ·intro h';rw [h'] at h;rw [←h] at this;simp at this;omega
 have hpp:=prP_ok a (by omega) b1 hb1
 rw [known17,hm]
 simp only [ob_s,hs,hf,ha,hpp,hpr,Bool.not_true,cond_false,qak,qad,qao,qaa]
 by_cases h0:a=[]
 ·have hbf:=hb2.2 h0
  have hl0:((a.length:Nat):Int)=0:=by rw [h0];rfl
  rw [if_pos hl0,if_pos hbf]
  simp [known17,ob_s]
 ·have hbf:¬ b1=false:=fun h=>h0 (hb2.1 h)
  have hl0:¬ ((a.length:Nat):Int)=0:=by
   have:a.length≠0:=fun h=>h0 (List.length_eq_zero_iff.1 h)
   omega
  rw [if_neg hl0,if_neg hbf]
  by_cases h6:6<(prL a).length
  ·rw [if_pos (by omega),if_pos h6]
   simp [known17,ob_s]
  ·have hsl:(prL a).length<900000:=by omega
   rw [if_neg (by omega),if_neg h6]
   simp only [not_true_eq_false,if_false,qd5 _ hsl,ob_s,Bool.not_true,cond_false,hg]
   rcases hg2 with hg0 | ⟨hgn,hg6⟩
   ·rw [if_pos (by rw [hg0];rfl)]
   ·by_cases hgl:((g.length:Nat):Int)=0
    ·rw [if_pos hgl]
    ·rw [if_neg hgl]
     obtain ⟨r,r1,_⟩:=qbx hM
     rw [r1,ob_s]
     cases r with
     | false=>rfl
     | true=>
       simp only [Bool.not_true,cond_false]
       rcases hgn with hg0 | ⟨no,rfl,hn6⟩
       ·exact absurd (by rw [hg0];rfl) hgl
       ·have hA:hasAll vs ps:=by
         rcases hraw with ⟨rfl,rfl,rfl⟩ | h
         ·rw [qfe] at r1;cases r1
         ·exact h
        have hk0:=qcg ts hM.g hA s so
        have hk:knA vs ps ts (nnfT s.tree no).flat=true:=by
         unfold knA at hk0 ⊢
         rw [List.all_eq_true] at hk0 ⊢
         exact nnf_all (P:=fun p=>(if p.1=3 then knB vs ps ts p.2 else true)=true) (fun k hk3=>by simp [hk3]) (s.wf so) hk0 no
        exact tt_1016 p0 p1 p2 p3 p4 p5 p6 p7 p8 hM hro.good (nnfT_wf (s.wf so) no) (nnfT_is (s.wf so) no) hn6 hg6 hk 1000000 (by omega)
end Go.Proofs.YtccnmhdgghjgoaaGreatDoor.Av
