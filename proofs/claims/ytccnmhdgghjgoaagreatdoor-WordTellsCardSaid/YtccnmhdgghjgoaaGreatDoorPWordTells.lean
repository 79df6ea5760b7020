/- The plain law of WordTells: what its twin computes answers true. Conditions: none. -/
import Derived.Test.YtccnmhdgghjgoaaGreatDoorPWordTellsb
set_option maxRecDepth 100000
namespace Go.Proofs.YtccnmhdgghjgoaaGreatDoor.Av
open Go
noncomputable abbrev ccS (p:List (List Stp)):=R75 M124 p
theorem concat_st (a b:List Stp) (ha:a.length≤100) (hb:b.length≤100):M75 [a,b]=some (a++b):=by
 have w1:IntKind.wrap IntKind.i64 (0+(a.length:Int))=(a.length:Int):=by rw [wrap64 (by omega) (by omega)];omega
 have w2:IntKind.wrap IntKind.i64 ((a.length:Int)+(b.length:Int))=((a.length+b.length:Nat):Int):=by rw [wrap64 (by omega) (by omega)];omega
 have hg0:∀ d:List Stp,([a,b]:List (List Stp)).getD (Int.toNat 0) d=a:=fun d=>rfl
 have hg1:∀ d:List Stp,([a,b]:List (List Stp)).getD 1 d=b:=fun d=>rfl
 have s1:ccS [a,b] 999999 (.l0 (a.length:Nat) (2:Nat) (1:Nat))=ccS [a,b] 999998 (.l0 ((a.length+b.length:Nat):Int) (2:Nat) (2:Nat)):=by
  show T75 Ops.std _ [a,b] _ some _=_
  unfold T75
  simp only [qae,qag,qaa,List.length_cons,List.length_nil,qab]
  rw [if_pos (by omega),if_pos (by omega)]
  simp only [hg1]
  rw [w2,if_neg (by omega),show IntKind.wrap IntKind.i64 (((1:Nat):Int)+1)=((2:Nat):Int) from qaf (by omega)]
 have s0:ccS [a,b] 1000000 (.l0 0 (2:Nat) 0)=ccS [a,b] 999999 (.l0 (a.length:Nat) (2:Nat) (1:Nat)):=by
  show T75 Ops.std _ [a,b] _ some _=_
  unfold T75
  simp only [qae,qag,qaa,List.length_cons,List.length_nil]
  rw [if_pos (by omega),if_pos (by omega)]
  simp only [hg0]
  rw [w1,if_neg (by omega),show IntKind.wrap IntKind.i64 (0+1)=((1:Nat):Int) from wrap64 (by omega) (by omega)]
 have s2:ccS [a,b] 999998 (.l0 ((a.length+b.length:Nat):Int) (2:Nat) (2:Nat))=ccS [a,b] 999997 (.l1 (2:Nat) 0 []):=by
  show T75 Ops.std _ [a,b] _ some _=_
  unfold T75
  simp only [qae,qag,qaa,List.length_cons,List.length_nil]
  rw [if_neg (by omega)]
  unfold M124 growF124
  rw [if_pos (by omega),ob_s]
  rfl
 have s3:ccS [a,b] 999997 (.l1 (2:Nat) 0 [])=ccS [a,b] 999996 (.l1 (2:Nat) (1:Nat) a):=by
  show T75 Ops.std _ [a,b] _ some _=_
  unfold T75
  simp only [qae,qag,qam,qaa,List.length_cons,List.length_nil]
  simp only [hg0]
  rw [if_pos (by omega),if_pos (by omega),if_pos (by omega),show IntKind.wrap IntKind.i64 (0+1)=((1:Nat):Int) from wrap64 (by omega) (by omega),List.nil_append]
 have s4:ccS [a,b] 999996 (.l1 (2:Nat) (1:Nat) a)=ccS [a,b] 999995 (.l1 (2:Nat) (2:Nat) (a++b)):=by
  show T75 Ops.std _ [a,b] _ some _=_
  unfold T75
  simp only [qae,qag,qam,qaa,List.length_cons,List.length_nil,qab]
  simp only [hg1]
  rw [if_pos (by omega),if_pos (by omega),if_pos (by omega),show IntKind.wrap IntKind.i64 (((1:Nat):Int)+1)=((2:Nat):Int) from qaf (by omega)]
 have s5:ccS [a,b] 999995 (.l1 (2:Nat) (2:Nat) (a++b))=some (a++b):=by
  show T75 Ops.std _ [a,b] _ some _=_
  unfold T75
  simp only [qae,qaa]
  rw [if_neg (by omega)]
 show T75 Ops.std M124 [a,b] (ccS [a,b] 1000000) some none=_
 unfold T75
 exact s0.trans (s1.trans (s2.trans (s3.trans (s4.trans s5))))
section
variable {vs:List Vrb} {ps:List Pcs} {ts:List Trn}
noncomputable abbrev srP (vs:List Vrb) (ps:List Pcs) (ts:List Trn) (s1 s2:List Int):=R80 M77 vs ps ts s1 s2
theorem srP_l1 (hv:vs.length≤100000) (s1 s2:List Int) (h2:s2.length=vs.length):∀ (t i n:Nat),i+t=vs.length→t<n→srP vs ps ts s1 s2 n (.l1 (vs.length:Nat) i)=ftR vs ps ts s1 s2 n (.l1 i)∧∃ b,ftR vs ps ts s1 s2 n (.l1 i)=some b
 | t,i,0,hi,hn=>by omega
 | 0,i,n+1,hi,hn=>by
   show T80 Ops.std _ vs ps ts s1 s2 _ some _=T139 Ops.std vs ps ts s1 s2 _ some _∧∃ b,T139 Ops.std vs ps ts s1 s2 _ some _=some b
   unfold T80 T139
   simp only [qae,qaa]
   rw [if_neg (by omega),if_neg (by omega)]
   exact ⟨rfl,_,rfl⟩
 | t+1,i,n+1,hi,hn=>by
   have ih:=srP_l1 hv s1 s2 h2 t (i+1) n (by omega) (by omega)
   show T80 Ops.std _ vs ps ts s1 s2 _ some _=T139 Ops.std vs ps ts s1 s2 _ some _∧∃ b,T139 Ops.std vs ps ts s1 s2 _ some _=some b
   unfold T80 T139
   have c1:(0:Int)≤(i:Int)∧(i:Int)<((vs.length:Nat):Int):=by omega
   have c2:(0:Int)≤(i:Int)∧(i:Int)<((s2.length:Nat):Int):=by omega
   simp only [qae,qag,qaa,qab,if_pos c1,if_pos c2,if_pos c1.2,if_pos c2.2,show IntKind.wrap IntKind.i64 ((i:Int)+1)=((i+1:Nat):Int) from qaf (by omega)]
   split
   ·exact ⟨rfl,_,rfl⟩
   ·split
    ·exact ⟨rfl,_,rfl⟩
    ·exact ih
theorem srP_l0 (hv:vs.length≤100000) (hp:ps.length≤100000) (s1 s2:List Int) (h1:s1.length=ps.length) (h2:s2.length=vs.length):∀ (t i n:Nat),i+t=ps.length→t+100010<n→srP vs ps ts s1 s2 n (.l0 (ps.length:Nat) i)=ftR vs ps ts s1 s2 n (.l0 i)∧∃ b,ftR vs ps ts s1 s2 n (.l0 i)=some b
 | t,i,0,hi,hn=>by omega
 | 0,i,n+1,hi,hn=>by
   show T80 Ops.std _ vs ps ts s1 s2 _ some _=T139 Ops.std vs ps ts s1 s2 _ some _∧∃ b,T139 Ops.std vs ps ts s1 s2 _ some _=some b
   unfold T80 T139
   simp only [qae,qaa]
   rw [if_neg (by omega),if_neg (by omega)]
   exact srP_l1 hv s1 s2 h2 vs.length 0 n (by omega) (by omega)
 | t+1,i,n+1,hi,hn=>by
   have ih:=srP_l0 hv hp s1 s2 h1 h2 t (i+1) n (by omega) (by omega)
   show T80 Ops.std _ vs ps ts s1 s2 _ some _=T139 Ops.std vs ps ts s1 s2 _ some _∧∃ b,T139 Ops.std vs ps ts s1 s2 _ some _=some b
   unfold T80 T139
   have c1:(0:Int)≤(i:Int)∧(i:Int)<((ps.length:Nat):Int):=by omega
   have c2:(0:Int)≤(i:Int)∧(i:Int)<((s1.length:Nat):Int):=by omega
   simp only [qae,qan,qag,qaa,qab,if_pos c1,if_pos c2,if_pos c1.2,if_pos c2.2,show IntKind.wrap IntKind.i64 ((i:Int)+1)=((i+1:Nat):Int) from qaf (by omega)]
   split
   ·exact ⟨rfl,_,rfl⟩
   ·split
    ·exact ⟨rfl,_,rfl⟩
    ·exact ih
theorem qdf (hM:smallM vs ps ts) (s1 s2:List Int):∃ b,M80 vs ps ts s1 s2=some b∧M81 vs ps ts s1 s2=some b:=by
 obtain ⟨r,r1,_⟩:=qa5 hM
 show ∃ b,T80 Ops.std M77 vs ps ts s1 s2 (srP vs ps ts s1 s2 1000000) some none=some b∧T81 Ops.std M18 M139 vs ps ts s1 s2 some=some b
 unfold T80 T81
 rw [qde hM,r1,ob_s,ob_s]
 cases r with
 | false=>exact ⟨_,rfl,rfl⟩
 | true=>
   simp only [Bool.not_true,cond_false]
   have hf:M139 vs ps ts s1 s2=T139 Ops.std vs ps ts s1 s2 (ftR vs ps ts s1 s2 1000000) some none:=rfl
   rw [hf]
   unfold T139
   simp only [qak,qas,qaa]
   by_cases c1:((s1.length:Nat):Int)=((ps.length:Nat):Int)
   ·by_cases c2:((s2.length:Nat):Int)=((vs.length:Nat):Int)
    ·rw [if_neg (fun h=>h c1),if_neg (fun h=>h c2),if_neg (fun h=>h c1),if_neg (fun h=>h c2)]
     have hvl:=hM.vl
     have hpl:=hM.pl
     obtain ⟨e,b,hb⟩:=srP_l0 (ts:=ts) (show vs.length≤100000 by omega) (show ps.length≤100000 by omega) s1 s2 (by omega) (by omega) ps.length 0 1000000 (by omega) (by omega)
     have hb':ftR vs ps ts s1 s2 1000000 (.l0 0)=some b:=hb
     exact ⟨b,e.trans hb,by rw [hb',ob_s]⟩
    ·rw [if_neg (fun h=>h c1),if_pos c2,if_neg (fun h=>h c1),if_pos c2];exact ⟨_,rfl,rfl⟩
   ·rw [if_pos c1,if_pos c1];exact ⟨_,rfl,rfl⟩
noncomputable def stOkB (vs:List Vrb) (ps:List Pcs) (ts:List Trn) (x:Stp):Bool:=(M81 vs ps ts x.1.1 x.1.2).getD false
theorem stOkB_P (hM:smallM vs ps ts) (x:Stp):M79 x.1.1 x.1.2 x.2 vs ps ts=some (!stOkB vs ps ts x,vs,ps,ts):=by
 obtain ⟨b,h1,h2⟩:=qdf hM x.1.1 x.1.2
 show T79 Ops.std M80 x.1.1 x.1.2 x.2 vs ps ts some=_
 unfold T79 stOkB
 rw [h1,ob_s,h2];rfl
theorem stOkB_R (hM:smallM vs ps ts) (x:Stp):M81 vs ps ts x.1.1 x.1.2=some (stOkB vs ps ts x):=by
 obtain ⟨b,h1,h2⟩:=qdf hM x.1.1 x.1.2
 unfold stOkB
 rw [h2];rfl
theorem ixW_loop (hM:smallM vs ps ts) (l:List Stp) (hl:l.length≤100000):∀ (t i n:Nat),i+t=l.length→t<n→∃ r:Int,R138 M79 l vs ps ts n (.l0 (l.length:Nat) i vs ps ts)=some (r,vs,ps,ts)∧((l.drop i).all (stOkB vs ps ts)=decide (r<0))
 | t,i,0,hi,hn=>by omega
 | 0,i,n+1,hi,hn=>by
   show ∃ r:Int,T138 Ops.std _ l vs ps ts _ some _=_∧_
   unfold T138
   simp only [qae,qaa]
   rw [if_neg (by omega),List.drop_eq_nil_of_le (by omega)]
   exact ⟨-1,rfl,rfl⟩
 | t+1,i,n+1,hi,hn=>by
   have ih:=ixW_loop hM l hl t (i+1) n (by omega) (by omega)
   show ∃ r:Int,T138 Ops.std _ l vs ps ts _ some _=_∧_
   unfold T138
   simp only [qae,qag,qaa,qab,stOkB_P hM,ob_s,show IntKind.wrap IntKind.i64 ((i:Int)+1)=((i+1:Nat):Int) from qaf (by omega)]
   rw [if_pos (by omega),if_pos (by omega),qaq (Ty.dflt ty68) (by omega),List.all_cons]
   cases stOkB vs ps ts (l.getD i (Ty.dflt ty68)) with
   | true=>simpa using ih
   | false=>exact ⟨(i:Int),rfl,by simp⟩
theorem someW_ok (hM:smallM vs ps ts) (l:List Stp) (hl:l.length≤100000):M78 l vs ps ts=some (!l.all (stOkB vs ps ts),vs,ps,ts):=by
 obtain ⟨r,r1,r2⟩:=ixW_loop hM l hl l.length 0 1000000 (by omega) (by omega)
 have e1:M138 l vs ps ts=some (r,vs,ps,ts):=by
  show T138 Ops.std M79 l vs ps ts (R138 M79 l vs ps ts 1000000) some none=_
  unfold T138
  exact r1
 show T78 Ops.std M138 M79 l vs ps ts some=_
 unfold T78
 rw [e1,ob_s]
 rw [List.drop_zero] at r2
 rw [r2,qan,qas]
 congr 2
 by_cases h:r<0
 ·simp [h]
 ·simp [h];omega
theorem qfc (hM:smallM vs ps ts) (st cy:List Stp) (h1:st.length≤100) (h2:cy.length≤100):∀ (t i n:Nat),i+t=st.length+cy.length→t<n→
  R42 M18 M65 M81 vs ps ts st cy n (.l0 i)=some (((st++cy).drop i).all (stOkB vs ps ts))
 | t,i,0,hi,hn=>by omega
 | 0,i,n+1,hi,hn=>by
   show T42 Ops.std _ _ _ vs ps ts st cy _ some _=_
   unfold T42
   simp only [qae,qaa,wrap64 (show -9223372036854775808≤(st.length:Int)+(cy.length:Int) by omega) (by omega)]
   rw [if_neg (by omega),List.drop_eq_nil_of_le (by simp;omega)];rfl
 | t+1,i,n+1,hi,hn=>by
   have ih:=qfc hM st cy h1 h2 t (i+1) n (by omega) (by omega)
   show T42 Ops.std _ _ _ vs ps ts st cy _ some _=_
   unfold T42
   simp only [qae,qaa,wrap64 (show -9223372036854775808≤(st.length:Int)+(cy.length:Int) by omega) (by omega),at_ok st cy i (by omega) (by omega) (by omega),ob_s,show IntKind.wrap IntKind.i64 ((i:Int)+1)=((i+1:Nat):Int) from qaf (by omega)]
   rw [if_pos (by omega),stOkB_R hM,ob_s,qaq (Ty.dflt ty68) (by simp;omega),List.all_cons]
   cases stOkB vs ps ts ((st++cy).getD i (Ty.dflt ty68)) with
   | true=>simpa using ih
   | false=>rfl
noncomputable def lassoB (vs:List Vrb) (ps:List Pcs) (ts:List Trn) (st cy:List Stp):Bool:=((M18 vs ps ts).getD false && !decide (cy.length<1)) && (st++cy).all (stOkB vs ps ts)
theorem rightR_ok (hM:smallM vs ps ts) (st cy:List Stp) (h1:st.length≤100) (h2:cy.length≤100):M42 vs ps ts st cy=some (lassoB vs ps ts st cy):=by
 obtain ⟨r,r1,_⟩:=qa5 hM
 show T42 Ops.std M18 M65 M81 vs ps ts st cy (R42 M18 M65 M81 vs ps ts st cy 1000000) some none=_
 unfold T42 lassoB
 rw [r1,ob_s,Option.getD_some]
 cases r with
 | false=>rfl
 | true=>
   simp only [Bool.not_true,cond_false,qae,qaa,wrap64 (show -9223372036854775808≤(st.length:Int)+(cy.length:Int) by omega) (by omega)]
   by_cases c:cy.length<1
   ·rw [if_pos (by omega)];simp [c]
   ·rw [if_neg (by omega),if_neg (by omega)]
    have:=qfc hM st cy h1 h2 (st.length+cy.length) 0 1000000 (by omega) (by omega)
    rw [List.drop_zero] at this
    simp only [c,decide_false,Bool.not_false,Bool.and_true,Bool.true_and]
    exact this
theorem rightP_ok (hM:smallM vs ps ts) (st cy:List Stp) (h1:st.length≤100) (h2:cy.length≤100):M41 vs ps ts st cy=some (lassoB vs ps ts st cy):=by
 obtain ⟨r,r1,_⟩:=qa5 hM
 show T41 Ops.std M77 M75 M79 M78 vs ps ts st cy some=_
 unfold T41 lassoB
 rw [qde hM,r1,ob_s,Option.getD_some]
 cases r with
 | false=>rfl
 | true=>
   simp only [Bool.not_true,cond_false,qae,qaa,wrap64 (show -9223372036854775808≤(st.length:Int)+(cy.length:Int) by omega) (by omega)]
   by_cases c:cy.length<1
   ·rw [if_pos (by omega)];simp [c]
   ·rw [if_neg (by omega),if_neg (by omega)]
    have hc:=concat_st st cy h1 h2
    have hc':M75 (st::cy::mt _)=some (st++cy):=hc
    rw [hc',ob_s,someW_ok hM _ (by simp;omega),ob_s]
    simp [c]
noncomputable abbrev waR (vs:List Vrb) (ps:List Pcs) (ts:List Trn) (f:List Prt) (st cy:List Stp):=R40 M67 M41 M75 M52 M76 vs ps ts f st cy
theorem AllP_loop (hg:smallG vs ps) (t:Fm Trm) (ht:WF t) (h60:t.size≤60) (w:List Stp×List Stp) (h1:w.1.length≤50) (h2:w.2.length≤50) (h0:1≤w.2.length) (R:List (List Bool)):∀ (hend:∀ m,0<m→waR vs ps ts t.flat w.1 w.2 m (.l0 ((t.size:Nat):Int) ((t.size:Nat):Int) (w.1.length:Nat) (t.post (allV vs ps ts w)) (t.kids 0) (w.1++w.2))=some R),
  ∀ m,t.size*4<m→waR vs ps ts t.flat w.1 w.2 m (.l0 ((t.size:Nat):Int) ((0:Nat):Int) (w.1.length:Nat) [] (t.kids 0) (w.1++w.2))=some R:=by
 intro hend
 have hfl:=t.flat_len
 have hkl:=t.kids_len 0
 have hwl:(w.1++w.2).length=w.1.length+w.2.length:=by simp
 have hb:w.1.length<(w.1++w.2).length:=by omega
 have hrl:∀ u,(allV vs ps ts w u).length=w.1.length+w.2.length:=fun u=>qa7 _ _
 have hP:=post_back (allV vs ps ts w) (Ty.dflt ty47) (E:=rightE) (f:=t.flat) (K:=t.kids 0) (fun _=>True) (fun _ _ _=>trivial) (fun _ _ _ _=>⟨trivial,trivial⟩)
  (fun i done=>∀ m,(t.size-i)*4<m→waR vs ps ts t.flat w.1 w.2 m (.l0 ((t.size:Nat):Int) ((i:Nat):Int) (w.1.length:Nat) done (t.kids 0) (w.1++w.2))=some R)
 have one:∀ (i:Nat) (p:Prt) (ks:List Int) (done:List (List Bool)) (kids:List (List Bool)) (o:Nat→Bool) (hi:i<t.size) (hdl:done.length=i) (hp:t.flat.getD i (Ty.dflt ty66)=p) (hks:(t.kids 0).getD i (Ty.dflt ty22)=ks) (hkl2:ks.length≤2)
   (hin:∀ (m:Nat),waR vs ps ts t.flat w.1 w.2 (m+3) (.l1 (i:Int) ((t.size:Nat):Int) (i:Int) ks (ks.length:Nat) 0 (w.1.length:Nat) done [] (t.kids 0) (w.1++w.2))=waR vs ps ts t.flat w.1 w.2 (m+3-ks.length) (.l1 (i:Int) ((t.size:Nat):Int) (i:Int) ks (ks.length:Nat) (ks.length:Nat) (w.1.length:Nat) done kids (t.kids 0) (w.1++w.2)))
   (hpart:M76 vs ps ts (w.1++w.2) (w.1.length:Nat) p.1 p.2 kids=some (rowL (w.1++w.2).length o))
   (hnx:∀ m,(t.size-(i+1))*4<m→waR vs ps ts t.flat w.1 w.2 m (.l0 ((t.size:Nat):Int) ((i+1:Nat):Int) (w.1.length:Nat) (done++[rowL (w.1++w.2).length o]) (t.kids 0) (w.1++w.2))=some R),
   ∀ m,(t.size-i)*4<m→waR vs ps ts t.flat w.1 w.2 m (.l0 ((t.size:Nat):Int) ((i:Nat):Int) (w.1.length:Nat) done (t.kids 0) (w.1++w.2))=some R:=by
  intro i p ks done kids o hi hdl hp hks hkl2 hin hpart hnx m hm
  obtain ⟨m,rfl⟩:∃ m',m=(m'+3)+1:=⟨m-4,by omega⟩
  have e1:waR vs ps ts t.flat w.1 w.2 ((m+3)+1) (.l0 ((t.size:Nat):Int) ((i:Nat):Int) (w.1.length:Nat) done (t.kids 0) (w.1++w.2))=waR vs ps ts t.flat w.1 w.2 (m+3) (.l1 (i:Int) ((t.size:Nat):Int) (i:Int) ks (ks.length:Nat) 0 (w.1.length:Nat) done [] (t.kids 0) (w.1++w.2)):=by
   show T40 Ops.std _ _ _ _ _ vs ps ts t.flat w.1 w.2 _ some _=_
   unfold T40
   simp only [qae,qag,qaa,qab,hks]
   rw [if_pos (by omega),if_pos (by omega)]
  rw [e1,hin]
  obtain ⟨q,hq⟩:∃ q,m+3-ks.length=q+1:=⟨m+3-ks.length-1,by omega⟩
  rw [hq]
  show T40 Ops.std _ _ _ _ _ vs ps ts t.flat w.1 w.2 _ some _=_
  unfold T40
  simp only [qae,qag,qam,qaa,qab,hp,hpart,ob_s,mt,List.length_cons,List.length_nil,show IntKind.wrap IntKind.i64 ((i:Int)+1)=((i+1:Nat):Int) from qaf (by omega)]
  rw [if_neg (by omega),if_pos (by omega),if_pos (by omega)]
  exact hnx q (by omega)
 have inn:∀ (i:Nat) (ks:List Int) (j x:Nat) (done acc:List (List Bool)) (m:Nat),j<ks.length→ks.length≤2→acc.length=j→done.length≤60→(∀ d,ks.getD j d=(x:Int))→x<done.length→
   waR vs ps ts t.flat w.1 w.2 (m+1) (.l1 (i:Int) ((t.size:Nat):Int) (i:Int) ks (ks.length:Nat) (j:Nat) (w.1.length:Nat) done acc (t.kids 0) (w.1++w.2))=waR vs ps ts t.flat w.1 w.2 m (.l1 (i:Int) ((t.size:Nat):Int) (i:Int) ks (ks.length:Nat) ((j+1:Nat):Int) (w.1.length:Nat) done (acc++[done.getD x (Ty.dflt ty47)]) (t.kids 0) (w.1++w.2)):=by
  intro i ks j x done acc m hj h2 ha hd hx hxl
  show T40 Ops.std _ _ _ _ _ vs ps ts t.flat w.1 w.2 _ some _=_
  unfold T40
  simp only [qae,qag,qam,qaa,qab,hx,mt,List.length_cons,List.length_nil,show IntKind.wrap IntKind.i64 ((j:Int)+1)=((j+1:Nat):Int) from qaf (by omega)]
  rw [if_pos (by omega),if_pos (by omega),if_pos (by omega),if_pos (by omega)]
 have lensO:∀ u,(allV vs ps ts w u).length=(w.1++w.2).length:=fun u=>(hrl u).trans hwl.symm
 have fn:∀ u i,i<(w.1++w.2).length→fnB (allV vs ps ts w u) i=semT (w.1.length+w.2.length) w.1.length (valE vs ps ts (w.1++w.2)) u i:=fun u i hi=>qbp _ _ i (by omega)
 have cg:∀ (u:Fm Trm),allV vs ps ts w u=rowL (w.1++w.2).length (semT (w.1.length+w.2.length) w.1.length (valE vs ps ts (w.1++w.2)) u):=fun u=>by rw [hwl]
 refine (hP ?_ ?_ ?_ t ht trivial 0 (At.all t) [] rfl ?_)
 ·intro i p done hw _ hi hiK hdl hp hK hnx m hm
  refine one i p [] done [] (semT (w.1.length+w.2.length) w.1.length (valE vs ps ts (w.1++w.2)) (.nul p)) (by omega) hdl hp hK (by simp) (fun m=>by rfl) ?_ (fun m hm=>by rw [←cg];exact hnx m hm) m hm
  refine part_row ts hg (w.1++w.2) w.1.length (by omega) hb p.1 p.2 (fun h3=>shortE.of (hw.2.1 h3)) [] [] [] (.inl hw.1) fun i hi=>?_
  have hop:p.1=1∨p.1=2∨p.1=3:=by
   have h0:=hw.1
   unfold opn at h0;split at h0<;>first | assumption | (split at h0<;>first | omega | (split at h0<;>omega))
  show _=sem0 (valE vs ps ts (w.1++w.2)) p i
  unfold sem0 rowOK
  rcases hop with h | h | h<;>rw [h]<;>rfl
 ·intro i p a j done hw _ hi hiK hdl hp hK hji hg1 hnx m hm
  refine one i p [(j:Int)] done [allV vs ps ts w a] (semT (w.1.length+w.2.length) w.1.length (valE vs ps ts (w.1++w.2)) (.un p a)) (by omega) hdl hp hK (by simp) (fun m=>?_) ?_ (fun m hm=>by rw [←cg];exact hnx m hm) m hm
  ·have:=inn i [(j:Int)] 0 j done [] (m+2) (by simp) (by simp) rfl (by omega) (fun d=>rfl) (by omega)
   rw [hg1] at this
   exact this
  ·refine part_row ts hg (w.1++w.2) w.1.length (by omega) hb p.1 p.2 (fun h3=>absurd h3 (ne3 hw.1 (by omega))) (allV vs ps ts w a) [] _ (.inr (.inl ⟨hw.1,rfl,lensO a⟩)) fun i hi=>?_
   have hop:p.1=4∨p.1=8∨p.1=11∨p.1=12:=by
    have h1:=hw.1
    unfold opn at h1;split at h1<;>first | omega | (split at h1<;>first | assumption | (split at h1<;>omega))
   have hb':w.1.length<w.1.length+w.2.length:=by omega
   have hi':i<w.1.length+w.2.length:=by omega
   have hfn:∀ i,i<w.1.length+w.2.length→fnB (allV vs ps ts w a) i=semT (w.1.length+w.2.length) w.1.length (valE vs ps ts (w.1++w.2)) a i:=fun i hi=>fn a i (by omega)
   rw [hwl]
   show _=sem1 (w.1.length+w.2.length) w.1.length p.1 (semT (w.1.length+w.2.length) w.1.length (valE vs ps ts (w.1++w.2)) a) i
   unfold rowOK
   rw [if_neg (by omega),if_neg (by omega),if_neg (by omega),if_pos (by omega)]
   unfold sem1
   rcases hop with h | h | h | h<;>rw [h]
   ·show (!fnB (allV vs ps ts w a) i)=!_
    rw [hfn i hi']
   ·exact hfn _ (qe3 _ _ hb' hi')
   ·exact lf_map (h:=fun i=>i) hb' hb' (fun i hi=>hi) (fun i hi=>rfl) (ruF_mono' _) (ruF_mono' _) (fun i x hi=>by unfold ruF;rw [hfn i hi]) i hi'
   ·exact gf_map (h:=fun i=>i) hb' hb' (fun i hi=>hi) (fun i hi=>rfl) (ruG_mono' _) (ruG_mono' _) (fun i x hi=>by unfold ruG;rw [hfn i hi]) i hi'
 ·intro i p a c j k done hw _ hi hiK hdl hp hK hji hki hg1 hg2 hnx m hm
  refine one i p [(j:Int),(k:Int)] done [allV vs ps ts w a,allV vs ps ts w c] (semT (w.1.length+w.2.length) w.1.length (valE vs ps ts (w.1++w.2)) (.bi p a c)) (by omega) hdl hp hK (by simp) (fun m=>?_) ?_ (fun m hm=>by rw [←cg];exact hnx m hm) m hm
  ·have e1:=inn i [(j:Int),(k:Int)] 0 j done [] (m+2) (by simp) (by simp) rfl (by omega) (fun d=>rfl) (by omega)
   rw [hg1] at e1
   have e2:=inn i [(j:Int),(k:Int)] 1 k done [allV vs ps ts w a] (m+1) (by simp) (by simp) rfl (by omega) (fun d=>rfl) (by omega)
   rw [hg2] at e2
   exact e1.trans e2
  ·refine part_row ts hg (w.1++w.2) w.1.length (by omega) hb p.1 p.2 (fun h3=>absurd h3 (ne3 hw.1 (by omega))) (allV vs ps ts w a) (allV vs ps ts w c) _ (.inr (.inr ⟨hw.1,rfl,lensO a,lensO c⟩)) fun i hi=>?_
   have hop:p.1=5∨p.1=6∨p.1=7∨p.1=9∨p.1=10:=by
    have h2:=hw.1
    unfold opn at h2;split at h2<;>first | omega | (split at h2<;>first | omega | (split at h2<;>first | assumption | omega))
   have hb':w.1.length<w.1.length+w.2.length:=by omega
   have hi':i<w.1.length+w.2.length:=by omega
   have hfa:∀ i,i<w.1.length+w.2.length→fnB (allV vs ps ts w a) i=semT (w.1.length+w.2.length) w.1.length (valE vs ps ts (w.1++w.2)) a i:=fun i hi=>fn a i (by omega)
   have hfc:∀ i,i<w.1.length+w.2.length→fnB (allV vs ps ts w c) i=semT (w.1.length+w.2.length) w.1.length (valE vs ps ts (w.1++w.2)) c i:=fun i hi=>fn c i (by omega)
   rw [hwl]
   show _=sem2 (w.1.length+w.2.length) w.1.length p.1 (semT (w.1.length+w.2.length) w.1.length (valE vs ps ts (w.1++w.2)) a) (semT (w.1.length+w.2.length) w.1.length (valE vs ps ts (w.1++w.2)) c) i
   unfold rowOK
   rw [if_neg (by omega),if_neg (by omega),if_neg (by omega),if_neg (by omega)]
   unfold sem2
   rcases hop with h | h | h | h | h<;>rw [h]
   ·show (fnB (allV vs ps ts w a) i && fnB (allV vs ps ts w c) i)=(_ && _)
    rw [hfa i hi',hfc i hi']
   ·show (fnB (allV vs ps ts w a) i || fnB (allV vs ps ts w c) i)=(_ || _)
    rw [hfa i hi',hfc i hi']
   ·show (!fnB (allV vs ps ts w a) i || fnB (allV vs ps ts w c) i)=(!_ || _)
    rw [hfa i hi',hfc i hi']
   ·exact lf_map (h:=fun i=>i) hb' hb' (fun i hi=>hi) (fun i hi=>rfl) (qbm _ _) (qbm _ _) (fun i x hi=>by unfold ruU;rw [hfa i hi,hfc i hi]) i hi'
   ·exact gf_map (h:=fun i=>i) hb' hb' (fun i hi=>hi) (fun i hi=>rfl) (qb4 _ _) (qb4 _ _) (fun i x hi=>by unfold ruR;rw [hfa i hi,hfc i hi]) i hi'
 ·intro m hm
  rw [Nat.zero_add] at hm ⊢
  exact hend m (by omega)
theorem AllP_ok (hM:smallM vs ps ts) (t:Fm Trm) (ht:WF t) (h60:t.size≤60) (w:List Stp×List Stp) (h1:w.1.length≤50) (h2:w.2.length≤50) :
  M40 vs ps ts t.flat w.1 w.2=some (if knA vs ps ts t.flat && lassoB vs ps ts w.1 w.2 then t.post (allV vs ps ts w) else []):=by
 have hfl:=t.flat_len
 have hkl:=t.kids_len 0
 show T40 Ops.std M67 M41 M75 M52 M76 vs ps ts t.flat w.1 w.2 (waR vs ps ts t.flat w.1 w.2 1000000) some none=_
 unfold T40
 rw [knownFP_ok ts hM.g t.flat (by omega) (wf_atm ht) (T_rightP ht h60),ob_s,rightP_ok hM w.1 w.2 (by omega) (by omega),ob_s]
 cases hk:knA vs ps ts t.flat with
 | false=>rfl
 | true=>
   cases hl:lassoB vs ps ts w.1 w.2 with
   | false=>rfl
   | true=>
     have h0:1≤w.2.length:=by
      unfold lassoB at hl
      simp only [Bool.and_eq_true,Bool.not_eq_true',decide_eq_false_iff_not] at hl
      omega
     have hc:M75 (w.1::w.2::mt _)=some (w.1++w.2):=concat_st w.1 w.2 (by omega) (by omega)
     simp only [Bool.not_true,cond_false,Bool.and_self,if_true]
     rw [hc,ob_s,prog_kids_yes rightE ht h60 (T_rightP ht h60),ob_s,hkl]
     refine AllP_loop hM.g t ht h60 w h1 h2 h0 _ (fun m hm=>?_) 1000000 (by omega)
     obtain ⟨m,rfl⟩:∃ m',m=m'+1:=⟨m-1,by omega⟩
     show T40 Ops.std _ _ _ _ _ vs ps ts t.flat w.1 w.2 _ some _=_
     unfold T40
     simp only [qae,qaa]
     rw [if_neg (by omega)]
theorem TrueP_ok (hM:smallM vs ps ts) (t:Fm Trm) (ht:WF t) (h60:t.size≤60) (w:List Stp×List Stp) (h1:w.1.length≤50) (h2:w.2.length≤50) :
  M43 vs ps ts t.flat w.1 w.2=some ((knA vs ps ts t.flat && lassoB vs ps ts w.1 w.2) && semT (w.1.length+w.2.length) w.1.length (valE vs ps ts (w.1++w.2)) t 0):=by
 show T43 Ops.std M40 vs ps ts t.flat w.1 w.2 some=_
 unfold T43
 rw [AllP_ok hM t ht h60 w h1 h2,ob_s]
 cases hc:(knA vs ps ts t.flat && lassoB vs ps ts w.1 w.2) with
 | false=>rfl
 | true=>
   have h0:1≤w.2.length:=by
    unfold lassoB at hc
    simp only [Bool.and_eq_true,Bool.not_eq_true',decide_eq_false_iff_not] at hc
    omega
   have hl:=qbl (allV vs ps ts w) t
   have hs:=t.size_pos
   have hgl:=qc8 (allV vs ps ts w) (Ty.dflt ty47) t [] []
   simp only [List.nil_append,List.append_nil,List.length_nil,Nat.zero_add] at hgl
   have hrl:(allV vs ps ts w t).length=w.1.length+w.2.length:=qa7 _ _
   have w1:IntKind.wrap IntKind.i64 ((t.size:Int)-1)=((t.size-1:Nat):Int):=by rw [wrap64 (by omega) (by omega)];omega
   have e0:=qbp (w.1.length+w.2.length) (semT (w.1.length+w.2.length) w.1.length (valE vs ps ts (w.1++w.2)) t) 0 (by omega)
   simp only [if_true,qae,qag,qaa,hl,w1,qab,hgl,hrl,Bool.true_and]
   rw [if_pos (by omega),if_pos (by omega),if_pos (by omega)]
   congr 1
end
section
variable {vs:List Vrb} {ps:List Pcs} {ts:List Trn}
theorem lasso_parts {st cy:List Stp}:lassoB vs ps ts st cy=true↔((M18 vs ps ts).getD false=true∧1≤cy.length∧∀ x∈st++cy,stOkB vs ps ts x=true):=by
 unfold lassoB
 simp only [Bool.and_eq_true,Bool.not_eq_true',decide_eq_false_iff_not,List.all_eq_true]
 constructor
 ·rintro ⟨⟨h1,h2⟩,h3⟩;exact ⟨h1,by omega,h3⟩
 ·rintro ⟨h1,h2,h3⟩;exact ⟨⟨h1,by omega⟩,h3⟩
end
theorem known16:M38=some true:=by kernel_rfl
theorem of_ok16 (s:List UInt8):∃ f:List Prt,M39 s=some f∧(f=[]∨(f.length≤24∧goodF f)):=by
 obtain ⟨e,x,f,h1,h2⟩:=parse_ok s
 refine ⟨f,?_,?_⟩
 ·show T39 Ops.std M45 s some=_
  unfold T39
  rw [h1,ob_s]
 ·rcases h2 with h | h
  ·exact .inl h
  ·exact .inr h.2
theorem qfd:∀ p∈([]:List Prt),shortP p:=fun p h=>by cases h
section
variable {vs:List Vrb} {ps:List Pcs} {ts:List Trn}
theorem knownFP_no (hg:smallG vs ps) (f:List Prt) (hf:f.length≤60) (ha:atmOk f) (hr:M95 f=some false):M67 vs ps ts f=some false:=by
 obtain ⟨r,r1,r2⟩:=ixK_loop ts hg f hf ha f.length 0 1000000 (by omega) (by omega)
 have e1:M162 f vs ps ts=some (r,vs,ps,ts):=by
  show T162 Ops.std M115 f vs ps ts (R162 M115 f vs ps ts 1000000) some none=_
  unfold T162
  exact r1
 have e2:M114 f vs ps ts=some (decide (0≤r),vs,ps,ts):=by
  show T114 Ops.std M162 M115 f vs ps ts some=_
  unfold T114
  rw [e1,ob_s]
  simp only [qan]
 show T67 Ops.std M115 M114 M95 vs ps ts f some=_
 unfold T67
 rw [e2,ob_s,hr,ob_s]
 rfl
theorem AllP_nil (hM:smallM vs ps ts) (f:List Prt) (h:f=[]) (st cy:List Stp):M40 vs ps ts f st cy=some []:=by
 have h1:M95 f=some false:=N_rightP (by rw [h];simp) (by rw [h];exact qfd) (by rw [h];rfl)
 have h2:=knownFP_no (ts:=ts) hM.g f (by rw [h];simp) (by rw [h];intro p hp;cases hp) h1
 show T40 Ops.std M67 M41 M75 M52 M76 vs ps ts f st cy (waR vs ps ts f st cy 1000000) some none=_
 unfold T40
 rw [h2,ob_s];rfl
end
theorem known13_nilW {vs:List Vrb} {ps:List Pcs} {ts:List Trn} (f:List Prt) (h:f=[]):M19 vs ps ts f=some false:=by
 have h1:M63 f=some false:=N_rightR (by rw [h];simp) (by rw [h];exact qfd) (by rw [h];rfl)
 show T19 Ops.std M62 M63 vs ps ts f (k3R vs ps ts f 1000000) some none=_
 unfold T19
 show T19 Ops.std M62 M63 vs ps ts f (k3R vs ps ts f 999999) some (some (.l0 0))=_
 unfold T19
 simp only [qae,qaa]
 rw [if_neg (by rw [h];simp),h1,ob_s]
section
variable {vs:List Vrb} {ps:List Pcs} {ts:List Trn}
theorem ft_l1c (hv:vs.length≤100000) {s1 s2:List Int} (h2:s2.length=vs.length):∀ (t i n:Nat),i+t=vs.length→t<n→ftR vs ps ts s1 s2 n (.l1 i)=some true→∀ j,i≤j→j<vs.length→(vs.getD j (Ty.dflt ty94)).2.1≤s2.getD j (Ty.dflt ty3)∧s2.getD j (Ty.dflt ty3)≤(vs.getD j (Ty.dflt ty94)).2.2.1
 | t,i,0,hi,hn,_,_,_,_=>by omega
 | 0,i,n+1,hi,hn,_,j,h3,h4=>by omega
 | t+1,i,n+1,hi,hn,h,j,h3,h4=>by
   have h:T139 Ops.std vs ps ts s1 s2 (ftR vs ps ts s1 s2 n) some (some (.l1 i))=some true:=h
   unfold T139 at h
   simp only [qae,qan,qag,qaa,qab] at h
   rw [if_pos (by omega),if_pos (by omega),if_pos (by omega)] at h
   by_cases v1:s2.getD i (Ty.dflt ty3)<(vs.getD i (Ty.dflt ty94)).2.1
   ·rw [if_pos v1] at h;cases h
   ·rw [if_neg v1,if_pos (by omega),if_pos (by omega)] at h
    by_cases v2:(vs.getD i (Ty.dflt ty94)).2.2.1<s2.getD i (Ty.dflt ty3)
    ·rw [if_pos v2] at h;cases h
    ·rw [if_neg v2,show IntKind.wrap IntKind.i64 ((i:Int)+1)=((i+1:Nat):Int) from qaf (by omega)] at h
     by_cases hj:j=i
     ·subst hj;omega
     ·exact ft_l1c hv h2 t (i+1) n (by omega) (by omega) h j (by omega) h4
theorem ft_l0c (hv:vs.length≤100000) (hp:ps.length≤100000) {s1 s2:List Int} (h1:s1.length=ps.length):∀ (t i n:Nat),i+t=ps.length→t+100010<n→ftR vs ps ts s1 s2 n (.l0 i)=some true→(∀ j,i≤j→j<ps.length→0≤s1.getD j (Ty.dflt ty3)∧s1.getD j (Ty.dflt ty3)<((ps.getD j (Ty.dflt ty98)).2.length:Int))∧∃ m,100000<m∧ftR vs ps ts s1 s2 m (.l1 (0:Nat))=some true
 | t,i,0,hi,hn,_=>by omega
 | 0,i,n+1,hi,hn,h=>by
   have h:T139 Ops.std vs ps ts s1 s2 (ftR vs ps ts s1 s2 n) some (some (.l0 i))=some true:=h
   unfold T139 at h
   simp only [qae,qaa] at h
   rw [if_neg (by omega)] at h
   exact ⟨fun j h3 h4=>by omega,n,by omega,h⟩
 | t+1,i,n+1,hi,hn,h=>by
   have h:T139 Ops.std vs ps ts s1 s2 (ftR vs ps ts s1 s2 n) some (some (.l0 i))=some true:=h
   unfold T139 at h
   simp only [qae,qan,qag,qaa,qab] at h
   rw [if_pos (by omega),if_pos (by omega)] at h
   by_cases v1:s1.getD i (Ty.dflt ty3)<0
   ·rw [if_pos v1] at h;cases h
   ·rw [if_neg v1,if_pos (by omega),if_pos (by omega)] at h
    by_cases v2:((ps.getD i (Ty.dflt ty98)).2.length:Int)≤s1.getD i (Ty.dflt ty3)
    ·rw [if_pos v2] at h;cases h
    ·rw [if_neg v2,show IntKind.wrap IntKind.i64 ((i:Int)+1)=((i+1:Nat):Int) from qaf (by omega)] at h
     obtain ⟨k1,k2⟩:=ft_l0c hv hp h1 t (i+1) n (by omega) (by omega) h
     refine ⟨fun j h3 h4=>?_,k2⟩
     by_cases hj:j=i
     ·subst hj;omega
     ·exact k1 j (by omega) h4
theorem fits_good (hM:goodM vs ps) {s:Stt} (h:M139 vs ps ts s.1 s.2=some true):goodSt vs ps s:=by
 have hpl:=hM.pl
 have hvl:=hM.vl
 have h:T139 Ops.std vs ps ts s.1 s.2 (ftR vs ps ts s.1 s.2 1000000) some none=some true:=h
 unfold T139 at h
 simp only [qak,qas,qaa] at h
 by_cases c1:((s.1.length:Nat):Int)=((ps.length:Nat):Int)
 ·rw [if_neg (fun h=>h c1)] at h
  by_cases c2:((s.2.length:Nat):Int)=((vs.length:Nat):Int)
  ·rw [if_neg (fun h=>h c2)] at h
   obtain ⟨k1,m,k2,k3⟩:=ft_l0c (by omega) (by omega) (by omega) ps.length 0 1000000 (by omega) (by omega) h
   exact ⟨by omega,by omega,fun i hi=>k1 i (by omega) hi,fun i hi=>ft_l1c (by omega) (by omega) vs.length 0 m (by omega) (by omega) k3 i (by omega) hi⟩
  ·rw [if_pos c2] at h;cases h
 ·rw [if_pos c1] at h;cases h
theorem qf3 (hM:smallM vs ps ts) (hG:goodM vs ps) {x:Stp} (h:stOkB vs ps ts x=true):goodSt vs ps x.1:=by
 have h1:=stOkB_R hM x
 rw [h] at h1
 obtain ⟨r,r1,_⟩:=qa5 hM
 have h1:T81 Ops.std M18 M139 vs ps ts x.1.1 x.1.2 some=some true:=h1
 unfold T81 at h1
 rw [r1,ob_s] at h1
 cases r with
 | false=>cases h1
 | true=>
   simp only [Bool.not_true,cond_false] at h1
   obtain ⟨b,hb,hb2⟩:=qcs h1
   cases hb2
   exact fits_good hG hb
theorem AllR_eq (hM:smallM vs ps ts) (hG:goodM vs ps) (t:Fm Trm) (ht:WF t) (h60:t.size≤60) (w:List Stp×List Stp) (h1:w.1.length≤6) (h2:w.2.length≤6) :
  M21 vs ps ts t.flat w.1 w.2=some (if knA vs ps ts t.flat && lassoB vs ps ts w.1 w.2 then t.post (allV vs ps ts w) else []):=by
 cases hc:(knA vs ps ts t.flat && lassoB vs ps ts w.1 w.2) with
 | true=>
   obtain ⟨hk,hl⟩:=(Bool.and_eq_true _ _).mp hc
   obtain ⟨r,r1,_⟩:=qa5 hM
   obtain ⟨q1,q2,q3⟩:=lasso_parts.1 hl
   have hR:M18 vs ps ts=some true:=by
    rw [r1] at q1 ⊢
    rw [show r=true from q1]
   rw [if_pos rfl]
   exact All_ok ts hR hG hM.g t ht h60 hk w ⟨h1,q2,h2,fun x hx=>qf3 hM hG (q3 x (List.mem_append.2 (.inl hx))),fun x hx=>qf3 hM hG (q3 x (List.mem_append.2 (.inr hx)))⟩
 | false=>
   simp only [Bool.false_eq_true,if_false]
   show T21 Ops.std M19 M42 M37 M65 M64 M66 vs ps ts t.flat w.1 w.2 (alR vs ps ts t.flat w.1 w.2 1000000) some none=_
   unfold T21
   rw [qfy ts hM.g t.flat (by rw [t.flat_len];exact h60) (wf_atm ht) (T_rightR ht h60),ob_s]
   cases hk:knA vs ps ts t.flat with
   | false=>rfl
   | true=>
     rw [hk] at hc
     simp only [Bool.true_and] at hc
     rw [rightR_ok hM w.1 w.2 (by omega) (by omega),hc]
     rfl
theorem AllR_nil (hM:smallM vs ps ts) (f:List Prt) (h:f=[]) (st cy:List Stp):M21 vs ps ts f st cy=some []:=by
 show T21 Ops.std M19 M42 M37 M65 M64 M66 vs ps ts f st cy (alR vs ps ts f st cy 1000000) some none=_
 unfold T21
 rw [known13_nilW f h,ob_s]
 rfl
theorem TrueR_ok (hM:smallM vs ps ts) (hG:goodM vs ps) (t:Fm Trm) (ht:WF t) (h60:t.size≤60) (w:List Stp×List Stp) (h1:w.1.length≤6) (h2:w.2.length≤6) :
  M44 vs ps ts t.flat w.1 w.2=some ((knA vs ps ts t.flat && lassoB vs ps ts w.1 w.2) && semT (w.1.length+w.2.length) w.1.length (valE vs ps ts (w.1++w.2)) t 0):=by
 show T44 Ops.std M21 vs ps ts t.flat w.1 w.2 some=_
 unfold T44
 rw [AllR_eq hM hG t ht h60 w h1 h2,ob_s]
 cases hc:(knA vs ps ts t.flat && lassoB vs ps ts w.1 w.2) with
 | false=>rfl
 | true=>
   have h0:1≤w.2.length:=by
    unfold lassoB at hc
    simp only [Bool.and_eq_true,Bool.not_eq_true',decide_eq_false_iff_not] at hc
    omega
   have hl:=qbl (allV vs ps ts w) t
   have hs:=t.size_pos
   have hgl:=qc8 (allV vs ps ts w) (Ty.dflt ty47) t [] []
   simp only [List.nil_append,List.append_nil,List.length_nil,Nat.zero_add] at hgl
   have hrl:(allV vs ps ts w t).length=w.1.length+w.2.length:=qa7 _ _
   have w1:IntKind.wrap IntKind.i64 ((t.size:Int)-1)=((t.size-1:Nat):Int):=by rw [wrap64 (by omega) (by omega)];omega
   have e0:=qbp (w.1.length+w.2.length) (semT (w.1.length+w.2.length) w.1.length (valE vs ps ts (w.1++w.2)) t) 0 (by omega)
   simp only [if_true,qae,qag,qaa,hl,w1,qab,hgl,hrl,Bool.true_and]
   rw [if_pos (by omega),if_pos (by omega),if_pos (by omega)]
   congr 1
theorem TrueR_nil (hM:smallM vs ps ts) (f:List Prt) (h:f=[]) (st cy:List Stp):M44 vs ps ts f st cy=some false:=by
 show T44 Ops.std M21 vs ps ts f st cy some=_
 unfold T44
 rw [AllR_nil hM f h,ob_s]
 rfl
theorem TrueP_nil (hM:smallM vs ps ts) (f:List Prt) (h:f=[]) (st cy:List Stp):M43 vs ps ts f st cy=some false:=by
 show T43 Ops.std M40 vs ps ts f st cy some=_
 unfold T43
 rw [AllP_nil hM f h,ob_s]
 rfl
end
section
variable (p0:List Int) (p1 p2:Int) (p3:List (List Int)) (p4 p5:List Int) (p6:Int)
noncomputable abbrev wtR:=R7 M38 M12 M15 M39 M20 M40 M21 M41 M42 M43 M44 p0 p1 p2 p3 p4 p5 p6
theorem wt_l1 (A:List (List Bool)) (i n c:Nat) (hA:A.length≤1000) (hi:i<A.length) (hr:(A.getD i (Ty.dflt ty47)).length≤1000) (h:∀ m,c≤m→wtR p0 p1 p2 p3 p4 p5 p6 m (.l0 (n:Nat) ((i+1:Nat):Int) A A)=some true) :
  ∀ (t k m:Nat),k+t=(A.getD i (Ty.dflt ty47)).length→c+t<m→wtR p0 p1 p2 p3 p4 p5 p6 m (.l1 (i:Nat) (n:Nat) (i:Nat) (((A.getD i (Ty.dflt ty47)).length:Nat):Int) (k:Nat) A A)=some true
 | t,k,0,hk,hm=>by omega
 | 0,k,m+1,hk,hm=>by
   have h':=h m (by omega)
   show T7 Ops.std _ _ _ _ _ _ _ _ _ _ _ p0 p1 p2 p3 p4 p5 p6 _ some _=_
   unfold T7
   simp only [qae,qaa,show IntKind.wrap IntKind.i64 ((i:Int)+1)=((i+1:Nat):Int) from qaf (by omega)]
   rw [if_neg (by omega)]
   exact h'
 | t+1,k,m+1,hk,hm=>by
   have ih:=wt_l1 A i n c hA hi hr h t (k+1) m (by omega) (by omega)
   show T7 Ops.std _ _ _ _ _ _ _ _ _ _ _ p0 p1 p2 p3 p4 p5 p6 _ some _=_
   unfold T7
   simp only [qae,qag,qaa,qab,show IntKind.wrap IntKind.i64 ((k:Int)+1)=((k+1:Nat):Int) from qaf (by omega)]
   rw [if_pos (by omega),if_pos (by omega),if_pos (by omega),if_pos (by omega),if_pos (by omega)]
   simp only [beq_self_eq_true,Bool.not_true,cond_false,bne_self_eq_false]
   first | exact ih | (rw [Bool.not_beq_self];exact ih)
theorem wt_l0 (A:List (List Bool)) (hA:A.length≤100) (hr:∀ x∈A,x.length≤100):∀ (t i m:Nat),i+t=A.length→t*110+10<m→wtR p0 p1 p2 p3 p4 p5 p6 m (.l0 ((A.length:Nat):Int) (i:Nat) A A)=some true
 | t,i,0,hi,hm=>by omega
 | 0,i,m+1,hi,hm=>by
   show T7 Ops.std _ _ _ _ _ _ _ _ _ _ _ p0 p1 p2 p3 p4 p5 p6 _ some _=_
   unfold T7
   simp only [qae,qaa]
   rw [if_neg (by omega),known16,ob_s]
 | t+1,i,m+1,hi,hm=>by
   have hlen:(A.getD i (Ty.dflt ty47)).length≤100:=by
    rw [List.getD_eq_getElem?_getD,List.getElem?_eq_getElem (show i<A.length by omega)]
    exact hr _ (List.getElem_mem _)
   have h1:=wt_l1 p0 p1 p2 p3 p4 p5 p6 A i A.length (t*110+11) (by omega) (by omega) (by omega) (fun m' hm'=>wt_l0 A hA hr t (i+1) m' (by omega) (by omega)) (A.getD i (Ty.dflt ty47)).length 0 m (by omega) (by omega)
   show T7 Ops.std _ _ _ _ _ _ _ _ _ _ _ p0 p1 p2 p3 p4 p5 p6 _ some _=_
   unfold T7
   simp only [qae,qag,qak,qas,qaa,qab]
   rw [if_pos (by omega),if_pos (by omega),if_pos (by omega),if_neg (fun h=>h trivial),if_pos (by omega)]
   exact h1
theorem wt_1010 {vs:List Vrb} {ps:List Pcs} {ts:List Trn} (hM:smallM vs ps ts) (hG:goodM vs ps) (f:List Prt) (hf:f=[]∨∃ t,WF t∧f=t.flat∧t.size≤60) (st cy:List Stp) (h1:st.length≤6) (h2:cy.length≤6) (m:Nat) (hm:100000<m) :
  wtR p0 p1 p2 p3 p4 p5 p6 m (.l1010 vs ps ts f st cy)=some true:=by
 obtain ⟨m,rfl⟩:∃ m',m=m'+3:=⟨m-3,by omega⟩
 show T7 Ops.std _ _ _ _ _ _ _ _ _ _ _ p0 p1 p2 p3 p4 p5 p6 _ some _=_
 unfold T7
 have hr1:=rightP_ok hM st cy (by omega) (by omega)
 have hr2:=rightR_ok hM st cy (by omega) (by omega)
 obtain ⟨A,b,a1,a2,a3,a4,a5,a6⟩:∃ (A:List (List Bool)) (b:Bool),M40 vs ps ts f st cy=some A∧M21 vs ps ts f st cy=some A∧M43 vs ps ts f st cy=some b∧M44 vs ps ts f st cy=some b∧A.length≤100∧∀ x∈A,x.length≤100:=by
  rcases hf with h0 | ⟨t,ht,rfl,h60⟩
  ·exact ⟨[],false,AllP_nil hM f h0 st cy,AllR_nil hM f h0 st cy,TrueP_nil hM f h0 st cy,TrueR_nil hM f h0 st cy,by simp,fun x hx=>by cases hx⟩
  ·refine ⟨_,_,AllP_ok hM t ht h60 (st,cy) (by simp only;omega) (by simp only;omega),AllR_eq hM hG t ht h60 (st,cy) h1 h2,TrueP_ok hM t ht h60 (st,cy) (by simp only;omega) (by simp only;omega),TrueR_ok hM hG t ht h60 (st,cy) h1 h2,?_,?_⟩
   ·split
    ·rw [qbl];omega
    ·simp
   ·split
    ·have hp:∀ u:Fm Trm,∀ x∈u.post (allV vs ps ts (st,cy)),x.length≤100:=fun u=>by
      have hone:∀ v:Fm Trm,(allV vs ps ts (st,cy) v).length≤100:=fun v=>by
       rw [show (allV vs ps ts (st,cy) v).length=st.length+cy.length from qa7 _ _];omega
      induction u with
      | nul p=>intro x hx;rw [List.mem_singleton.1 hx];exact hone _
      | un p a ih=>
        intro x hx
        rcases List.mem_append.1 hx with h | h
        ·exact ih x h
        ·rw [List.mem_singleton.1 h];exact hone _
      | bi p a b iha ihb=>
        intro x hx
        rcases List.mem_append.1 hx with h | h
        ·rcases List.mem_append.1 h with h | h
         ·exact iha x h
         ·exact ihb x h
        ·rw [List.mem_singleton.1 h];exact hone _
     exact hp t
    ·intro x hx;cases hx
 dsimp only
 rw [a1,ob_s,a2,ob_s]
 simp only [qak,qas,qaa,not_true_eq_false,if_false]
 rw [hr1,ob_s,hr2,ob_s]
 have hb:∀ b:Bool,(!b == b)=false:=fun b=>by cases b<;>rfl
 have hb':∀ b:Bool,(!(b == b))=false:=fun b=>by cases b<;>rfl
 simp only [hb,hb',cond_false]
 rw [a3,ob_s,a4,ob_s]
 simp only [hb,hb',cond_false]
 show T7 Ops.std _ _ _ _ _ _ _ _ _ _ _ p0 p1 p2 p3 p4 p5 p6 _ some _=_
 unfold T7
 exact wt_l0 p0 p1 p2 p3 p4 p5 p6 A a5 a6 A.length 0 (m+1) (by omega) (by omega)
end
theorem plainWordTells (p0:List Int) (p1 p2:Int) (p3:List (List Int)) (p4 p5:List Int) (p6:Int) (w0:Ty.wf ty22 p0) (w1:Ty.wf ty3 p1) (w2:Ty.wf ty3 p2) (w3:Ty.wf ty23 p3) (w4:Ty.wf ty22 p4) (w5:Ty.wf ty22 p5) (w6:Ty.wf ty3 p6):M7 p0 p1 p2 p3 p4 p5 p6=some true:=by
 show T7 Ops.std M38 M12 M15 M39 M20 M40 M21 M41 M42 M43 M44 p0 p1 p2 p3 p4 p5 p6 (wtR p0 p1 p2 p3 p4 p5 p6 1000000) some none=_
 unfold T7
 obtain ⟨s,hs,_⟩:=formula_ok p0
 obtain ⟨f,hf,hf2⟩:=of_ok16 s
 obtain ⟨vs,ps,ts,hm,hro⟩:=Model_ok2 p1 p2 p3
 have hM:=hro.1
 obtain ⟨w,hw,hok⟩:=Word_ok (ts:=ts) hro.good p4 p5
 obtain ⟨l1,l2,l3,l4,l5⟩:=hok
 have hf3:f=[]∨∃ t,WF t∧f=t.flat∧t.size≤60:=by
  rcases hf2 with h0 | ⟨h24,hgf⟩
  ·exact .inl h0
  ·exact .inr (good_tree hgf (by omega))
 have main:=fun st cy h1 h2=>wt_1010 p0 p1 p2 p3 p4 p5 p6 hM hro.good f hf3 st cy h1 h2 1000000 (by omega)
 rw [known16,hs,hm]
 simp only [ob_s,hf,hw,Bool.not_true,cond_false,qak,qae,qag,qaa,mt]
 have hset:∀ x:Stp,(List.set w.1 (Int.toNat 0) x).length≤6:=fun x=>by rw [List.length_set];exact l1
 repeat' split
 all_goals first
  | exact main _ _ l1 l3
  | exact main _ [] l1 (by simp)
  | exact main _ _ (hset _) l3
  | exact main _ [] (hset _) (by simp)
  | omega
  | (exfalso;omega)
end Go.Proofs.YtccnmhdgghjgoaaGreatDoor.Av
