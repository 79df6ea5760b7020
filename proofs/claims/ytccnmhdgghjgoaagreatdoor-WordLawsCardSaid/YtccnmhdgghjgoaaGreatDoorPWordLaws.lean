/- The plain law of WordLaws: what its twin computes answers true. Conditions: none. -/
import Derived.Test.YtccnmhdgghjgoaaGreatDoorPWordLawsb
set_option linter.unusedSimpArgs false
set_option linter.unusedVariables false
set_option maxRecDepth 100000
namespace Go.Proofs.YtccnmhdgghjgoaaGreatDoor.Av
open Go
noncomputable abbrev ccS (p:List (List Stp)):=R75 M124 p
theorem concat_st (a b:List Stp) (ha:a.length≤100) (hb:b.length≤100):M75 [a,b]=some (a++b):=by
 have w1:IntKind.wrap IntKind.i64 (0+(a.length:Int))=(a.length:Int):=by rw [wrap64 (by omega) (by omega)];omega
 have w2:IntKind.wrap IntKind.i64 ((a.length:Int)+(b.length:Int))=((a.length+b.length:Nat):Int):=by rw [wrap64 (by omega) (by omega)];omega
 have hg0:∀ d:List Stp,([a,b]:List (List Stp)).getD (Int.toNat 0) d=a:=fun d=>rfl
 have hg1:∀ d:List Stp,([a,b]:List (List Stp)).getD 1 d=b:=fun d=>rfl
 have s1:ccS [a,b] 999999 (.l0 (a.length:Nat) (2:Nat) (1:Nat))=ccS [a,b] 999998 (.l0 ((a.length+b.length:Nat):Int) (2:Nat) (2:Nat)):=by
  show T75 Ops.std _ [a,b] _ some _=_
  unfold T75
  simp only [qac,qag,qaa,List.length_cons,List.length_nil,qab]
  rw [if_pos (by omega),if_pos (by omega)]
  simp only [hg1]
  rw [w2,if_neg (by omega),show IntKind.wrap IntKind.i64 (((1:Nat):Int)+1)=((2:Nat):Int) from qae (by omega)]
 have s0:ccS [a,b] 1000000 (.l0 0 (2:Nat) 0)=ccS [a,b] 999999 (.l0 (a.length:Nat) (2:Nat) (1:Nat)):=by
  show T75 Ops.std _ [a,b] _ some _=_
  unfold T75
  simp only [qac,qag,qaa,List.length_cons,List.length_nil]
  rw [if_pos (by omega),if_pos (by omega)]
  simp only [hg0]
  rw [w1,if_neg (by omega),show IntKind.wrap IntKind.i64 (0+1)=((1:Nat):Int) from wrap64 (by omega) (by omega)]
 have s2:ccS [a,b] 999998 (.l0 ((a.length+b.length:Nat):Int) (2:Nat) (2:Nat))=ccS [a,b] 999997 (.l1 (2:Nat) 0 []):=by
  show T75 Ops.std _ [a,b] _ some _=_
  unfold T75
  simp only [qac,qag,qaa,List.length_cons,List.length_nil]
  rw [if_neg (by omega)]
  unfold M124 growF124
  rw [if_pos (by omega),ob_s]
  rfl
 have s3:ccS [a,b] 999997 (.l1 (2:Nat) 0 [])=ccS [a,b] 999996 (.l1 (2:Nat) (1:Nat) a):=by
  show T75 Ops.std _ [a,b] _ some _=_
  unfold T75
  simp only [qac,qag,qam,qaa,List.length_cons,List.length_nil]
  simp only [hg0]
  rw [if_pos (by omega),if_pos (by omega),if_pos (by omega),show IntKind.wrap IntKind.i64 (0+1)=((1:Nat):Int) from wrap64 (by omega) (by omega),List.nil_append]
 have s4:ccS [a,b] 999996 (.l1 (2:Nat) (1:Nat) a)=ccS [a,b] 999995 (.l1 (2:Nat) (2:Nat) (a++b)):=by
  show T75 Ops.std _ [a,b] _ some _=_
  unfold T75
  simp only [qac,qag,qam,qaa,List.length_cons,List.length_nil,qab]
  simp only [hg1]
  rw [if_pos (by omega),if_pos (by omega),if_pos (by omega),show IntKind.wrap IntKind.i64 (((1:Nat):Int)+1)=((2:Nat):Int) from qae (by omega)]
 have s5:ccS [a,b] 999995 (.l1 (2:Nat) (2:Nat) (a++b))=some (a++b):=by
  show T75 Ops.std _ [a,b] _ some _=_
  unfold T75
  simp only [qac,qaa]
  rw [if_neg (by omega)]
 show T75 Ops.std M124 [a,b] (ccS [a,b] 1000000) some none=_
 unfold T75
 exact s0.trans (s1.trans (s2.trans (s3.trans (s4.trans s5))))
section
variable {vs:List Vrb} {ps:List Pcs} {ts:List Trn}
noncomputable abbrev srP (vs:List Vrb) (ps:List Pcs) (ts:List Trn) (s1 s2:List Int):=R80 M77 vs ps ts s1 s2
theorem srP_l1 (hv:vs.length≤100000) (s1 s2:List Int) (h2:s2.length=vs.length):∀ (t i n:Nat),i+t=vs.length→t<n→srP vs ps ts s1 s2 n (.l1 (vs.length:Nat) i)=ftR vs ps ts s1 s2 n (.l1 i)∧∃ b,ftR vs ps ts s1 s2 n (.l1 i)=some b
 | t,i,0,hi,hn=>by omega
 | 0,i,n+1,hi,hn=>by
   show T80 Ops.std _ vs ps ts s1 s2 _ some _=T139 Ops.std vs ps ts s1 s2 _ some _∧∃ b,T139 Ops.std vs ps ts s1 s2 _ some _=some b
   unfold T80 T139
   simp only [qac,qaa]
   rw [if_neg (by omega),if_neg (by omega)]
   exact ⟨rfl,_,rfl⟩
 | t+1,i,n+1,hi,hn=>by
   have ih:=srP_l1 hv s1 s2 h2 t (i+1) n (by omega) (by omega)
   show T80 Ops.std _ vs ps ts s1 s2 _ some _=T139 Ops.std vs ps ts s1 s2 _ some _∧∃ b,T139 Ops.std vs ps ts s1 s2 _ some _=some b
   unfold T80 T139
   have c1:(0:Int)≤(i:Int)∧(i:Int)<((vs.length:Nat):Int):=by omega
   have c2:(0:Int)≤(i:Int)∧(i:Int)<((s2.length:Nat):Int):=by omega
   simp only [qac,qag,qaa,qab,if_pos c1,if_pos c2,if_pos c1.2,if_pos c2.2,show IntKind.wrap IntKind.i64 ((i:Int)+1)=((i+1:Nat):Int) from qae (by omega)]
   split
   ·exact ⟨rfl,_,rfl⟩
   ·split
    ·exact ⟨rfl,_,rfl⟩
    ·exact ih
theorem srP_l0 (hv:vs.length≤100000) (hp:ps.length≤100000) (s1 s2:List Int) (h1:s1.length=ps.length) (h2:s2.length=vs.length):∀ (t i n:Nat),i+t=ps.length→t+100010<n→srP vs ps ts s1 s2 n (.l0 (ps.length:Nat) i)=ftR vs ps ts s1 s2 n (.l0 i)∧∃ b,ftR vs ps ts s1 s2 n (.l0 i)=some b
 | t,i,0,hi,hn=>by omega
 | 0,i,n+1,hi,hn=>by
   show T80 Ops.std _ vs ps ts s1 s2 _ some _=T139 Ops.std vs ps ts s1 s2 _ some _∧∃ b,T139 Ops.std vs ps ts s1 s2 _ some _=some b
   unfold T80 T139
   simp only [qac,qaa]
   rw [if_neg (by omega),if_neg (by omega)]
   exact srP_l1 hv s1 s2 h2 vs.length 0 n (by omega) (by omega)
 | t+1,i,n+1,hi,hn=>by
   have ih:=srP_l0 hv hp s1 s2 h1 h2 t (i+1) n (by omega) (by omega)
   show T80 Ops.std _ vs ps ts s1 s2 _ some _=T139 Ops.std vs ps ts s1 s2 _ some _∧∃ b,T139 Ops.std vs ps ts s1 s2 _ some _=some b
   unfold T80 T139
   have c1:(0:Int)≤(i:Int)∧(i:Int)<((ps.length:Nat):Int):=by omega
   have c2:(0:Int)≤(i:Int)∧(i:Int)<((s1.length:Nat):Int):=by omega
   simp only [qac,qao,qag,qaa,qab,if_pos c1,if_pos c2,if_pos c1.2,if_pos c2.2,show IntKind.wrap IntKind.i64 ((i:Int)+1)=((i+1:Nat):Int) from qae (by omega)]
   split
   ·exact ⟨rfl,_,rfl⟩
   ·split
    ·exact ⟨rfl,_,rfl⟩
    ·exact ih
theorem stateRight_eq (hM:smallM vs ps ts) (s1 s2:List Int):∃ b,M80 vs ps ts s1 s2=some b∧M81 vs ps ts s1 s2=some b:=by
 obtain ⟨r,r1,_⟩:=qbz hM
 show ∃ b,T80 Ops.std M77 vs ps ts s1 s2 (srP vs ps ts s1 s2 1000000) some none=some b∧T81 Ops.std M18 M139 vs ps ts s1 s2 some=some b
 unfold T80 T81
 rw [qc2 hM,r1,ob_s,ob_s]
 cases r with
 | false=>exact ⟨_,rfl,rfl⟩
 | true=>
   simp only [Bool.not_true,cond_false]
   have hf:M139 vs ps ts s1 s2=T139 Ops.std vs ps ts s1 s2 (ftR vs ps ts s1 s2 1000000) some none:=rfl
   rw [hf]
   unfold T139
   simp only [qak,qas,qaa]
   by_cases c1:((s1.length:Nat):Int)=((ps.length:Nat):Int)
   ·by_cases c2:((s2.length:Nat):Int)=((vs.length:Nat):Int)
    ·rw [if_neg (fun h=>h c1),if_neg (fun h=>h c2),if_neg (fun h=>h c1),if_neg (fun h=>h c2)]
     have hvl:=hM.vl
     have hpl:=hM.pl
     obtain ⟨e,b,hb⟩:=srP_l0 (ts:=ts) (show vs.length≤100000 by omega) (show ps.length≤100000 by omega) s1 s2 (by omega) (by omega) ps.length 0 1000000 (by omega) (by omega)
     have hb':ftR vs ps ts s1 s2 1000000 (.l0 0)=some b:=hb
     exact ⟨b,e.trans hb,by rw [hb',ob_s]⟩
    ·rw [if_neg (fun h=>h c1),if_pos c2,if_neg (fun h=>h c1),if_pos c2];exact ⟨_,rfl,rfl⟩
   ·rw [if_pos c1,if_pos c1];exact ⟨_,rfl,rfl⟩
noncomputable def stOkB (vs:List Vrb) (ps:List Pcs) (ts:List Trn) (x:Stp):Bool:=(M81 vs ps ts x.1.1 x.1.2).getD false
theorem stOkB_P (hM:smallM vs ps ts) (x:Stp):M79 x.1.1 x.1.2 x.2 vs ps ts=some (!stOkB vs ps ts x,vs,ps,ts):=by
 obtain ⟨b,h1,h2⟩:=stateRight_eq hM x.1.1 x.1.2
 show T79 Ops.std M80 x.1.1 x.1.2 x.2 vs ps ts some=_
 unfold T79 stOkB
 rw [h1,ob_s,h2];rfl
theorem ixW_loop (hM:smallM vs ps ts) (l:List Stp) (hl:l.length≤100000):∀ (t i n:Nat),i+t=l.length→t<n→∃ r:Int,R138 M79 l vs ps ts n (.l0 (l.length:Nat) i vs ps ts)=some (r,vs,ps,ts)∧((l.drop i).all (stOkB vs ps ts)=decide (r<0))
 | t,i,0,hi,hn=>by omega
 | 0,i,n+1,hi,hn=>by
   show ∃ r:Int,T138 Ops.std _ l vs ps ts _ some _=_∧_
   unfold T138
   simp only [qac,qaa]
   rw [if_neg (by omega),List.drop_eq_nil_of_le (by omega)]
   exact ⟨-1,rfl,rfl⟩
 | t+1,i,n+1,hi,hn=>by
   have ih:=ixW_loop hM l hl t (i+1) n (by omega) (by omega)
   show ∃ r:Int,T138 Ops.std _ l vs ps ts _ some _=_∧_
   unfold T138
   simp only [qac,qag,qaa,qab,stOkB_P hM,ob_s,show IntKind.wrap IntKind.i64 ((i:Int)+1)=((i+1:Nat):Int) from qae (by omega)]
   rw [if_pos (by omega),if_pos (by omega),qat (Ty.dflt ty68) (by omega),List.all_cons]
   cases stOkB vs ps ts (l.getD i (Ty.dflt ty68)) with
   | true=>simpa using ih
   | false=>exact ⟨(i:Int),rfl,by simp⟩
theorem someW_ok (hM:smallM vs ps ts) (l:List Stp) (hl:l.length≤100000):M78 l vs ps ts=some (!l.all (stOkB vs ps ts),vs,ps,ts):=by
 obtain ⟨r,r1,r2⟩:=ixW_loop hM l hl l.length 0 1000000 (by omega) (by omega)
 have e1:M138 l vs ps ts=some (r,vs,ps,ts):=by
  show T138 Ops.std M79 l vs ps ts (R138 M79 l vs ps ts 1000000) some none=_
  unfold T138
  exact r1
 show T78 Ops.std M138 M79 l vs ps ts some=_
 unfold T78
 rw [e1,ob_s]
 rw [List.drop_zero] at r2
 rw [r2,qao,qas]
 congr 2
 by_cases h:r<0
 ·simp [h]
 ·simp [h];omega
noncomputable def lassoB (vs:List Vrb) (ps:List Pcs) (ts:List Trn) (st cy:List Stp):Bool:=((M18 vs ps ts).getD false && !decide (cy.length<1)) && (st++cy).all (stOkB vs ps ts)
theorem rightP_ok (hM:smallM vs ps ts) (st cy:List Stp) (h1:st.length≤100) (h2:cy.length≤100):M41 vs ps ts st cy=some (lassoB vs ps ts st cy):=by
 obtain ⟨r,r1,_⟩:=qbz hM
 show T41 Ops.std M77 M75 M79 M78 vs ps ts st cy some=_
 unfold T41 lassoB
 rw [qc2 hM,r1,ob_s,Option.getD_some]
 cases r with
 | false=>rfl
 | true=>
   simp only [Bool.not_true,cond_false,qac,qaa,wrap64 (show -9223372036854775808≤(st.length:Int)+(cy.length:Int) by omega) (by omega)]
   by_cases c:cy.length<1
   ·rw [if_pos (by omega)];simp [c]
   ·rw [if_neg (by omega),if_neg (by omega)]
    have hc:=concat_st st cy h1 h2
    have hc':M75 (st::cy::mt _)=some (st++cy):=hc
    rw [hc',ob_s,someW_ok hM _ (by simp;omega),ob_s]
    simp [c]
noncomputable abbrev waR (vs:List Vrb) (ps:List Pcs) (ts:List Trn) (f:List Prt) (st cy:List Stp):=R40 M67 M41 M75 M52 M76 vs ps ts f st cy
theorem AllP_loop (hg:smallG vs ps) (t:Fm Trm) (ht:WF t) (h60:t.size≤60) (w:List Stp×List Stp) (h1:w.1.length≤50) (h2:w.2.length≤50) (h0:1≤w.2.length) (R:List (List Bool)):∀ (hend:∀ m,0<m→waR vs ps ts t.flat w.1 w.2 m (.l0 ((t.size:Nat):Int) ((t.size:Nat):Int) (w.1.length:Nat) (t.post (allV vs ps ts w)) (t.kids 0) (w.1++w.2))=some R),
  ∀ m,t.size*4<m→waR vs ps ts t.flat w.1 w.2 m (.l0 ((t.size:Nat):Int) ((0:Nat):Int) (w.1.length:Nat) [] (t.kids 0) (w.1++w.2))=some R:=by
 intro hend
 have hfl:=t.flat_len
 have hkl:=t.kids_len 0
 have hwl:(w.1++w.2).length=w.1.length+w.2.length:=by simp
 have hb:w.1.length<(w.1++w.2).length:=by omega
 have hrl:∀ u,(allV vs ps ts w u).length=w.1.length+w.2.length:=fun u=>qb1 _ _
 have hP:=post_back (allV vs ps ts w) (Ty.dflt ty47) (E:=rightE) (f:=t.flat) (K:=t.kids 0) (fun _=>True) (fun _ _ _=>trivial) (fun _ _ _ _=>⟨trivial,trivial⟩)
  (fun i done=>∀ m,(t.size-i)*4<m→waR vs ps ts t.flat w.1 w.2 m (.l0 ((t.size:Nat):Int) ((i:Nat):Int) (w.1.length:Nat) done (t.kids 0) (w.1++w.2))=some R)
 have one:∀ (i:Nat) (p:Prt) (ks:List Int) (done:List (List Bool)) (kids:List (List Bool)) (o:Nat→Bool) (hi:i<t.size) (hdl:done.length=i) (hp:t.flat.getD i (Ty.dflt ty66)=p) (hks:(t.kids 0).getD i (Ty.dflt ty22)=ks) (hkl2:ks.length≤2)
   (hin:∀ (m:Nat),waR vs ps ts t.flat w.1 w.2 (m+3) (.l1 (i:Int) ((t.size:Nat):Int) (i:Int) ks (ks.length:Nat) 0 (w.1.length:Nat) done [] (t.kids 0) (w.1++w.2))=waR vs ps ts t.flat w.1 w.2 (m+3-ks.length) (.l1 (i:Int) ((t.size:Nat):Int) (i:Int) ks (ks.length:Nat) (ks.length:Nat) (w.1.length:Nat) done kids (t.kids 0) (w.1++w.2)))
   (hpart:M76 vs ps ts (w.1++w.2) (w.1.length:Nat) p.1 p.2 kids=some (rowL (w.1++w.2).length o))
   (hnx:∀ m,(t.size-(i+1))*4<m→waR vs ps ts t.flat w.1 w.2 m (.l0 ((t.size:Nat):Int) ((i+1:Nat):Int) (w.1.length:Nat) (done++[rowL (w.1++w.2).length o]) (t.kids 0) (w.1++w.2))=some R),
   ∀ m,(t.size-i)*4<m→waR vs ps ts t.flat w.1 w.2 m (.l0 ((t.size:Nat):Int) ((i:Nat):Int) (w.1.length:Nat) done (t.kids 0) (w.1++w.2))=some R:=by
  intro i p ks done kids o hi hdl hp hks hkl2 hin hpart hnx m hm
  obtain ⟨m,rfl⟩:∃ m',m=(m'+3)+1:=⟨m-4,by omega⟩
  have e1:waR vs ps ts t.flat w.1 w.2 ((m+3)+1) (.l0 ((t.size:Nat):Int) ((i:Nat):Int) (w.1.length:Nat) done (t.kids 0) (w.1++w.2))=waR vs ps ts t.flat w.1 w.2 (m+3) (.l1 (i:Int) ((t.size:Nat):Int) (i:Int) ks (ks.length:Nat) 0 (w.1.length:Nat) done [] (t.kids 0) (w.1++w.2)):=by
   show T40 Ops.std _ _ _ _ _ vs ps ts t.flat w.1 w.2 _ some _=_
   unfold T40
   simp only [qac,qag,qaa,qab,hks]
   rw [if_pos (by omega),if_pos (by omega)]
  rw [e1,hin]
  obtain ⟨q,hq⟩:∃ q,m+3-ks.length=q+1:=⟨m+3-ks.length-1,by omega⟩
  rw [hq]
  show T40 Ops.std _ _ _ _ _ vs ps ts t.flat w.1 w.2 _ some _=_
  unfold T40
  simp only [qac,qag,qam,qaa,qab,hp,hpart,ob_s,mt,List.length_cons,List.length_nil,show IntKind.wrap IntKind.i64 ((i:Int)+1)=((i+1:Nat):Int) from qae (by omega)]
  rw [if_neg (by omega),if_pos (by omega),if_pos (by omega)]
  exact hnx q (by omega)
 have inn:∀ (i:Nat) (ks:List Int) (j x:Nat) (done acc:List (List Bool)) (m:Nat),j<ks.length→ks.length≤2→acc.length=j→done.length≤60→(∀ d,ks.getD j d=(x:Int))→x<done.length→
   waR vs ps ts t.flat w.1 w.2 (m+1) (.l1 (i:Int) ((t.size:Nat):Int) (i:Int) ks (ks.length:Nat) (j:Nat) (w.1.length:Nat) done acc (t.kids 0) (w.1++w.2))=waR vs ps ts t.flat w.1 w.2 m (.l1 (i:Int) ((t.size:Nat):Int) (i:Int) ks (ks.length:Nat) ((j+1:Nat):Int) (w.1.length:Nat) done (acc++[done.getD x (Ty.dflt ty47)]) (t.kids 0) (w.1++w.2)):=by
  intro i ks j x done acc m hj h2 ha hd hx hxl
  show T40 Ops.std _ _ _ _ _ vs ps ts t.flat w.1 w.2 _ some _=_
  unfold T40
  simp only [qac,qag,qam,qaa,qab,hx,mt,List.length_cons,List.length_nil,show IntKind.wrap IntKind.i64 ((j:Int)+1)=((j+1:Nat):Int) from qae (by omega)]
  rw [if_pos (by omega),if_pos (by omega),if_pos (by omega),if_pos (by omega)]
 have lensO:∀ u,(allV vs ps ts w u).length=(w.1++w.2).length:=fun u=>(hrl u).trans hwl.symm
 have fn:∀ u i,i<(w.1++w.2).length→fnB (allV vs ps ts w u) i=semT (w.1.length+w.2.length) w.1.length (valE vs ps ts (w.1++w.2)) u i:=fun u i hi=>qdm _ _ i (by omega)
 have cg:∀ (u:Fm Trm),allV vs ps ts w u=rowL (w.1++w.2).length (semT (w.1.length+w.2.length) w.1.length (valE vs ps ts (w.1++w.2)) u):=fun u=>by rw [hwl]
 refine (hP ?_ ?_ ?_ t ht trivial 0 (At.all t) [] rfl ?_)
 ·intro i p done hw _ hi hiK hdl hp hK hnx m hm
  refine one i p [] done [] (semT (w.1.length+w.2.length) w.1.length (valE vs ps ts (w.1++w.2)) (.nul p)) (by omega) hdl hp hK (by simp) (fun m=>by rfl) ?_ (fun m hm=>by rw [←cg];exact hnx m hm) m hm
  refine part_row ts hg (w.1++w.2) w.1.length (by omega) hb p.1 p.2 (fun h3=>shortE.of (hw.2.1 h3)) [] [] [] (.inl hw.1) fun i hi=>?_
  have hop:p.1=1∨p.1=2∨p.1=3:=by
   have h0:=hw.1
   unfold opn at h0;split at h0<;>first | assumption | (split at h0<;>first | omega | (split at h0<;>omega))
  show _=sem0 (valE vs ps ts (w.1++w.2)) p i
  unfold sem0 rowOK
  rcases hop with h | h | h<;>rw [h]<;>rfl
 ·intro i p a j done hw _ hi hiK hdl hp hK hji hg1 hnx m hm
  refine one i p [(j:Int)] done [allV vs ps ts w a] (semT (w.1.length+w.2.length) w.1.length (valE vs ps ts (w.1++w.2)) (.un p a)) (by omega) hdl hp hK (by simp) (fun m=>?_) ?_ (fun m hm=>by rw [←cg];exact hnx m hm) m hm
  ·have:=inn i [(j:Int)] 0 j done [] (m+2) (by simp) (by simp) rfl (by omega) (fun d=>rfl) (by omega)
   rw [hg1] at this
   exact this
  ·refine part_row ts hg (w.1++w.2) w.1.length (by omega) hb p.1 p.2 (fun h3=>absurd h3 (ne3 hw.1 (by omega))) (allV vs ps ts w a) [] _ (.inr (.inl ⟨hw.1,rfl,lensO a⟩)) fun i hi=>?_
   have hop:p.1=4∨p.1=8∨p.1=11∨p.1=12:=by
    have h1:=hw.1
    unfold opn at h1;split at h1<;>first | omega | (split at h1<;>first | assumption | (split at h1<;>omega))
   have hb':w.1.length<w.1.length+w.2.length:=by omega
   have hi':i<w.1.length+w.2.length:=by omega
   have hfn:∀ i,i<w.1.length+w.2.length→fnB (allV vs ps ts w a) i=semT (w.1.length+w.2.length) w.1.length (valE vs ps ts (w.1++w.2)) a i:=fun i hi=>fn a i (by omega)
   rw [hwl]
   show _=sem1 (w.1.length+w.2.length) w.1.length p.1 (semT (w.1.length+w.2.length) w.1.length (valE vs ps ts (w.1++w.2)) a) i
   unfold rowOK
   rw [if_neg (by omega),if_neg (by omega),if_neg (by omega),if_pos (by omega)]
   unfold sem1
   rcases hop with h | h | h | h<;>rw [h]
   ·show (!fnB (allV vs ps ts w a) i)=!_
    rw [hfn i hi']
   ·exact hfn _ (nx_lt _ _ hb' hi')
   ·exact lf_map (h:=fun i=>i) hb' hb' (fun i hi=>hi) (fun i hi=>rfl) (ruF_mono' _) (ruF_mono' _) (fun i x hi=>by unfold ruF;rw [hfn i hi]) i hi'
   ·exact gf_map (h:=fun i=>i) hb' hb' (fun i hi=>hi) (fun i hi=>rfl) (ruG_mono' _) (ruG_mono' _) (fun i x hi=>by unfold ruG;rw [hfn i hi]) i hi'
 ·intro i p a c j k done hw _ hi hiK hdl hp hK hji hki hg1 hg2 hnx m hm
  refine one i p [(j:Int),(k:Int)] done [allV vs ps ts w a,allV vs ps ts w c] (semT (w.1.length+w.2.length) w.1.length (valE vs ps ts (w.1++w.2)) (.bi p a c)) (by omega) hdl hp hK (by simp) (fun m=>?_) ?_ (fun m hm=>by rw [←cg];exact hnx m hm) m hm
  ·have e1:=inn i [(j:Int),(k:Int)] 0 j done [] (m+2) (by simp) (by simp) rfl (by omega) (fun d=>rfl) (by omega)
   rw [hg1] at e1
   have e2:=inn i [(j:Int),(k:Int)] 1 k done [allV vs ps ts w a] (m+1) (by simp) (by simp) rfl (by omega) (fun d=>rfl) (by omega)
   rw [hg2] at e2
   exact e1.trans e2
  ·refine part_row ts hg (w.1++w.2) w.1.length (by omega) hb p.1 p.2 (fun h3=>absurd h3 (ne3 hw.1 (by omega))) (allV vs ps ts w a) (allV vs ps ts w c) _ (.inr (.inr ⟨hw.1,rfl,lensO a,lensO c⟩)) fun i hi=>?_
   have hop:p.1=5∨p.1=6∨p.1=7∨p.1=9∨p.1=10:=by
    have h2:=hw.1
    unfold opn at h2;split at h2<;>first | omega | (split at h2<;>first | omega | (split at h2<;>first | assumption | omega))
   have hb':w.1.length<w.1.length+w.2.length:=by omega
   have hi':i<w.1.length+w.2.length:=by omega
   have hfa:∀ i,i<w.1.length+w.2.length→fnB (allV vs ps ts w a) i=semT (w.1.length+w.2.length) w.1.length (valE vs ps ts (w.1++w.2)) a i:=fun i hi=>fn a i (by omega)
   have hfc:∀ i,i<w.1.length+w.2.length→fnB (allV vs ps ts w c) i=semT (w.1.length+w.2.length) w.1.length (valE vs ps ts (w.1++w.2)) c i:=fun i hi=>fn c i (by omega)
   rw [hwl]
   show _=sem2 (w.1.length+w.2.length) w.1.length p.1 (semT (w.1.length+w.2.length) w.1.length (valE vs ps ts (w.1++w.2)) a) (semT (w.1.length+w.2.length) w.1.length (valE vs ps ts (w.1++w.2)) c) i
   unfold rowOK
   rw [if_neg (by omega),if_neg (by omega),if_neg (by omega),if_neg (by omega)]
   unfold sem2
   rcases hop with h | h | h | h | h<;>rw [h]
   ·show (fnB (allV vs ps ts w a) i && fnB (allV vs ps ts w c) i)=(_ && _)
    rw [hfa i hi',hfc i hi']
   ·show (fnB (allV vs ps ts w a) i || fnB (allV vs ps ts w c) i)=(_ || _)
    rw [hfa i hi',hfc i hi']
   ·show (!fnB (allV vs ps ts w a) i || fnB (allV vs ps ts w c) i)=(!_ || _)
    rw [hfa i hi',hfc i hi']
   ·exact lf_map (h:=fun i=>i) hb' hb' (fun i hi=>hi) (fun i hi=>rfl) (qbx _ _) (qbx _ _) (fun i x hi=>by unfold ruU;rw [hfa i hi,hfc i hi]) i hi'
   ·exact gf_map (h:=fun i=>i) hb' hb' (fun i hi=>hi) (fun i hi=>rfl) (qci _ _) (qci _ _) (fun i x hi=>by unfold ruR;rw [hfa i hi,hfc i hi]) i hi'
 ·intro m hm
  rw [Nat.zero_add] at hm ⊢
  exact hend m (by omega)
theorem AllP_ok (hM:smallM vs ps ts) (t:Fm Trm) (ht:WF t) (h60:t.size≤60) (w:List Stp×List Stp) (h1:w.1.length≤50) (h2:w.2.length≤50) :
  M40 vs ps ts t.flat w.1 w.2=some (if knA vs ps ts t.flat && lassoB vs ps ts w.1 w.2 then t.post (allV vs ps ts w) else []):=by
 have hfl:=t.flat_len
 have hkl:=t.kids_len 0
 show T40 Ops.std M67 M41 M75 M52 M76 vs ps ts t.flat w.1 w.2 (waR vs ps ts t.flat w.1 w.2 1000000) some none=_
 unfold T40
 rw [knownFP_ok ts hM.g t.flat (by omega) (wf_atm ht) (T_rightP ht h60),ob_s,rightP_ok hM w.1 w.2 (by omega) (by omega),ob_s]
 cases hk:knA vs ps ts t.flat with
 | false=>rfl
 | true=>
   cases hl:lassoB vs ps ts w.1 w.2 with
   | false=>rfl
   | true=>
     have h0:1≤w.2.length:=by
      unfold lassoB at hl
      simp only [Bool.and_eq_true,Bool.not_eq_true',decide_eq_false_iff_not] at hl
      omega
     have hc:M75 (w.1::w.2::mt _)=some (w.1++w.2):=concat_st w.1 w.2 (by omega) (by omega)
     simp only [Bool.not_true,cond_false,Bool.and_self,if_true]
     rw [hc,ob_s,prog_kids_yes rightE ht h60 (T_rightP ht h60),ob_s,hkl]
     refine AllP_loop hM.g t ht h60 w h1 h2 h0 _ (fun m hm=>?_) 1000000 (by omega)
     obtain ⟨m,rfl⟩:∃ m',m=m'+1:=⟨m-1,by omega⟩
     show T40 Ops.std _ _ _ _ _ vs ps ts t.flat w.1 w.2 _ some _=_
     unfold T40
     simp only [qac,qaa]
     rw [if_neg (by omega)]
theorem TrueP_ok (hM:smallM vs ps ts) (t:Fm Trm) (ht:WF t) (h60:t.size≤60) (w:List Stp×List Stp) (h1:w.1.length≤50) (h2:w.2.length≤50) :
  M43 vs ps ts t.flat w.1 w.2=some ((knA vs ps ts t.flat && lassoB vs ps ts w.1 w.2) && semT (w.1.length+w.2.length) w.1.length (valE vs ps ts (w.1++w.2)) t 0):=by
 show T43 Ops.std M40 vs ps ts t.flat w.1 w.2 some=_
 unfold T43
 rw [AllP_ok hM t ht h60 w h1 h2,ob_s]
 cases hc:(knA vs ps ts t.flat && lassoB vs ps ts w.1 w.2) with
 | false=>rfl
 | true=>
   have h0:1≤w.2.length:=by
    unfold lassoB at hc
    simp only [Bool.and_eq_true,Bool.not_eq_true',decide_eq_false_iff_not] at hc
    omega
   have hl:=qch (allV vs ps ts w) t
   have hs:=t.size_pos
   have hgl:=qd7 (allV vs ps ts w) (Ty.dflt ty47) t [] []
   simp only [List.nil_append,List.append_nil,List.length_nil,Nat.zero_add] at hgl
   have hrl:(allV vs ps ts w t).length=w.1.length+w.2.length:=qb1 _ _
   have w1:IntKind.wrap IntKind.i64 ((t.size:Int)-1)=((t.size-1:Nat):Int):=by rw [wrap64 (by omega) (by omega)];omega
   have e0:=qdm (w.1.length+w.2.length) (semT (w.1.length+w.2.length) w.1.length (valE vs ps ts (w.1++w.2)) t) 0 (by omega)
   simp only [if_true,qac,qag,qaa,hl,w1,qab,hgl,hrl,Bool.true_and]
   rw [if_pos (by omega),if_pos (by omega),if_pos (by omega)]
   congr 1
end
section
variable {vs:List Vrb} {ps:List Pcs} {ts:List Trn}
end
theorem known16:M38=some true:=by kernel_rfl
section
variable {vs:List Vrb} {ps:List Pcs} {ts:List Trn}
end
abbrev TokS:=Int×List UInt8×Int
def strip (t:Tok):TokS:=(t.1,t.2.1,t.2.2.1)
def LexTo (s r:List UInt8) (ts:List TokS):Prop:=
 ∀ (f a:Nat) (out:List Tok),(s++r).length<f→∃ (f':Nat) (tks:List Tok),tks.map strip=ts∧r.length<f'∧lexGo f (s++r) a out=lexGo f' r (a+s.length) (out++tks)
theorem LexTo.nil (r:List UInt8):LexTo [] r []:=fun f a out h=>⟨f,[],rfl,h,by simp⟩
theorem LexTo.app {s1 s2 r:List UInt8} {t1 t2:List TokS} (h1:LexTo s1 (s2++r) t1) (h2:LexTo s2 r t2):LexTo (s1++s2) r (t1++t2):=fun f a out h=>by
 rw [List.append_assoc] at h
 obtain ⟨f1,k1,e1,g1,q1⟩:=h1 f a out h
 obtain ⟨f2,k2,e2,g2,q2⟩:=h2 f1 (a+s1.length) (out++k1) g1
 refine ⟨f2,k1++k2,by rw [List.map_append,e1,e2],g2,?_⟩
 rw [List.append_assoc,q1,q2,List.length_append,List.append_assoc,Nat.add_assoc]
theorem LexTo.blank {b:UInt8} (hb:blankP b=true) (r:List UInt8):LexTo [b] r []:=fun f a out h=>by
 obtain ⟨g,rfl⟩:∃ g,f=g+1:=⟨f-1,by omega⟩
 refine ⟨g,[],rfl,by simp at h;omega,?_⟩
 simp only [List.cons_append,List.nil_append,lexGo,hb,if_true,List.length_cons,List.length_nil,List.append_nil]
theorem LexTo.tok {b:UInt8} {s r:List UInt8} {k n:Int} (ht:tokS (b::(s++r))=some (k,b::s,n)) (hb:blankP b=false):LexTo (b::s) r [(k,b::s,n)]:=fun f a out h=>by
 obtain ⟨g,rfl⟩:∃ g,f=g+1:=⟨f-1,by omega⟩
 refine ⟨g,[(k,b::s,n,(a:Int))],rfl,by simp at h;omega,?_⟩
 have hd:List.drop (b::s).length (b::(s++r))=r:=by
  rw [←List.cons_append,List.drop_left]
 simp only [List.cons_append,lexGo,hb,ht,Bool.false_eq_true,if_false,hd]
theorem qe3 {b:UInt8} {r w:List UInt8} (h1:digitP' b=false) (h2:lowerP b=false) (h3:letterP b=false) (hs:signS (b::r)=w) (hw:w≠[]):tokS (b::r)=some (4,w,0):=by
 simp only [tokS,h1,h2,h3,hs,hw,Bool.false_eq_true,if_false]
theorem signS_two {p:List UInt8} {r:List UInt8} (h:p=[60,61]∨p=[62,61]∨p=[61,61]∨p=[33,61]∨p=[38,38]∨p=[124,124]∨p=[45,62]):signS (p++r)=p:=by
 rcases h with h | h | h | h | h | h | h<;>subst h<;>simp [signS,twos]
theorem qfr {p:List UInt8} (r:List UInt8) (h:p=[60,61]∨p=[62,61]∨p=[61,61]∨p=[33,61]∨p=[38,38]∨p=[124,124]∨p=[45,62]):LexTo p r [(4,p,0)]:=by
 have hs:=signS_two (r:=r) h
 rcases h with h | h | h | h | h | h | h<;>subst h<;>exact LexTo.tok (qe3 rfl rfl rfl hs (by simp)) rfl
theorem signS_one {c:UInt8} {r:List UInt8} (h:c=40∨c=41∨c=91∨c=93∨c=64):signS (c::r)=[c]:=by
 have h2:twos.find? (fun p=>decide (1<(c::r).length) && ((c::r).take 2 == p))=none:=by
  rw [List.find?_eq_none]
  intro p hp
  simp only [twos,List.mem_cons,List.not_mem_nil,or_false] at hp
  rcases h with h | h | h | h | h<;>subst h<;>rcases hp with hp | hp | hp | hp | hp | hp | hp<;>subst hp<;>simp
 unfold signS
 rw [h2]
 rcases h with h | h | h | h | h<;>subst h<;>simp [ones]
theorem lx_one {c:UInt8} (r:List UInt8) (h:c=40∨c=41∨c=91∨c=93∨c=64):LexTo [c] r [(4,[c],0)]:=by
 have hs:=signS_one (r:=r) h
 rcases h with h | h | h | h | h<;>subst h<;>exact LexTo.tok (s:=[]) (qe3 rfl rfl rfl hs (by simp)) rfl
theorem signS_oneq {c d:UInt8} {r:List UInt8} (h:c=33∨c=60∨c=62) (hd:d≠61):signS (c::d::r)=[c]:=by
 have h2:twos.find? (fun p=>decide (1<(c::d::r).length) && ((c::d::r).take 2 == p))=none:=by
  rw [List.find?_eq_none]
  intro p hp
  simp only [twos,List.mem_cons,List.not_mem_nil,or_false] at hp
  rcases h with h | h | h<;>subst h<;>rcases hp with hp | hp | hp | hp | hp | hp | hp<;>subst hp<;>simp [hd]
 unfold signS
 rw [h2]
 rcases h with h | h | h<;>subst h<;>simp [ones]
theorem lx_oneq {c d:UInt8} (r:List UInt8) (h:c=33∨c=60∨c=62) (hd:d≠61):LexTo [c] (d::r) [(4,[c],0)]:=by
 have hs:=signS_oneq (r:=r) h hd
 rcases h with h | h | h<;>subst h<;>exact LexTo.tok (s:=[]) (qe3 rfl rfl rfl hs (by simp)) rfl
theorem qcf {c:UInt8} (r:List UInt8) (h:c=88∨c=70∨c=71∨c=85∨c=82):LexTo [c] r [(3,[c],0)]:=by
 rcases h with h | h | h | h | h<;>subst h<;>exact LexTo.tok (s:=[]) rfl rfl
def noWord (r:List UInt8):Prop:=∀ (b:UInt8) (q:List UInt8),r=b::q→wordP b=false
theorem noWord.nil:noWord []:=fun b q h=>by cases h
theorem noWord.cons {b:UInt8} {q:List UInt8} (h:wordP b=false):noWord (b::q):=fun c p e=>by cases e;exact h
theorem tw_app {p:UInt8→Bool}:∀ (w r:List UInt8),w.all p=true→(∀ b q,r=b::q→p b=false)→(w++r).takeWhile p=w
 | [],[],_,_=>rfl
 | [],b::q,_,h=>by rw [List.nil_append,List.takeWhile_cons,h b q rfl];rfl
 | a::w,r,ha,h=>by
   simp only [List.all_cons,Bool.and_eq_true] at ha
   rw [List.cons_append,List.takeWhile_cons,ha.1,if_pos rfl,tw_app w r ha.2 h]
theorem lx_word {b:UInt8} {w:List UInt8} (r:List UInt8) (hb:lowerP b=true) (hn:digitP' b=false) (hk:blankP b=false) (hw:w.all wordP=true) (hl:w.length<8) (hr:noWord r):LexTo (b::w) r [(2,b::w,0)]:=by
 refine LexTo.tok ?_ hk
 have ht:(b::(w++r)).takeWhile wordP=b::w:=by
  rw [←List.cons_append]
  exact tw_app (b::w) r (by rw [List.all_cons,hw];simp [wordP,hb]) hr
 simp only [tokS,hn,hb,ht,Bool.false_eq_true,if_false,if_true,List.length_cons]
 rw [if_pos (by omega)]
theorem lx_num {b:UInt8} (r:List UInt8) (hb:digitP' b=true) (hk:blankP b=false) (hr:noWord r):LexTo [b] r [(1,[b],valW [b])]:=by
 refine LexTo.tok (s:=[]) ?_ hk
 have ht:(b::([]++r)).takeWhile digitP'=[b]:=by
  have:=tw_app (p:=digitP') [b] r (by simp [hb]) (fun c q e=>by
   have:=hr c q e
   simp only [wordP,Bool.or_eq_false_iff] at this
   exact this.2)
  simpa using this
 simp only [tokS,hb,ht,if_true]
 rfl
inductive Sen where
 | con (b:Bool)
 | atm (i:Nat)
 | una (k:Int) (s:Sen)
 | bra (s:Sen)
 | bin (k:Int) (a b:Sen)
def unaW (k:Int):List UInt8:=if k=4 then [33] else if k=8 then [88,32] else if k=11 then [70,32] else [71,32]
def unaT (k:Int):TokS:=if k=4 then (4,[33],0) else if k=8 then (3,[88],0) else if k=11 then (3,[70],0) else (3,[71],0)
def binW (k:Int):List UInt8:=if k=5 then [32,38,38,32] else if k=6 then [32,124,124,32] else if k=7 then [32,45,62,32] else if k=9 then [32,85,32] else [32,82,32]
def binT (k:Int):TokS:=if k=5 then (4,[38,38],0) else if k=6 then (4,[124,124],0) else if k=7 then (4,[45,62],0) else if k=9 then (3,[85],0) else (3,[82],0)
def conW (b:Bool):List UInt8:=if b then [116,114,117,101] else [102,97,108,115,101]
def atmsW:List (List UInt8):=[[91,120,61,61,49,93],[91,112,64,97,93],[91,121,60,49,93],[91,113,64,98,38,38,120,62,48,93],[91,120,61,61,121,93],[91,112,64,98,93]]
def atmsT:List (List TokS):=[[(2,[120],0),(4,[61,61],0),(1,[49],1),(4,[93],0)],[(2,[112],0),(4,[64],0),(2,[97],0),(4,[93],0)],[(2,[121],0),(4,[60],0),(1,[49],1),(4,[93],0)],
 [(2,[113],0),(4,[64],0),(2,[98],0),(4,[38,38],0),(2,[120],0),(4,[62],0),(1,[48],0),(4,[93],0)],[(2,[120],0),(4,[61,61],0),(2,[121],0),(4,[93],0)],[(2,[112],0),(4,[64],0),(2,[98],0),(4,[93],0)]]
def Sen.text:Sen→List UInt8
 | .con b=>conW b
 | .atm i=>atmsW.getD i []
 | .una k s=>unaW k++s.text
 | .bra s=>[40]++(s.text++[41])
 | .bin k a b=>a.text++(binW k++b.text)
def Sen.toks:Sen→List TokS
 | .con b=>[(2,conW b,0)]
 | .atm i=>(4,[91],0)::atmsT.getD i []
 | .una k s=>unaT k::s.toks
 | .bra s=>(4,[40],0)::(s.toks++[(4,[41],0)])
 | .bin k a b=>a.toks++(binT k::b.toks)
def lvK (k:Int):Nat:=if k=7 then 1 else if k=6 then 2 else if k=5 then 3 else 4
def Sen.lv:Sen→Nat
 | .bin k _ _=>lvK k
 | _=>5
def unaK (k:Int):Prop:=k=4∨k=8∨k=11∨k=12
def binK (k:Int):Prop:=k=5∨k=6∨k=7∨k=9∨k=10
def Sen.ok:Sen→Prop
 | .con _=>True
 | .atm i=>i<6
 | .una k s=>unaK k∧s.lv=5∧s.ok
 | .bra s=>s.ok
 | .bin k a b=>binK k∧lvK k<a.lv∧lvK k≤b.lv∧(lvK k=b.lv→lvK k=1∨lvK k=4)∧a.ok∧b.ok
theorem Sen.head:∀ s:Sen,s.ok→∃ (d:UInt8) (q:List UInt8),s.text=d::q∧d≠61
 | .con b,_=>by cases b<;>exact ⟨_,_,rfl,by decide⟩
 | .atm i,h=>by
   have h:i<6:=h
   match i,h with
   | 0,_ | 1,_ | 2,_ | 3,_ | 4,_ | 5,_=>exact ⟨_,_,rfl,by decide⟩
 | .una k s,h=>by
   obtain ⟨h1,_,_⟩:=h
   rcases h1 with rfl | rfl | rfl | rfl<;>exact ⟨_,_,rfl,by decide⟩
 | .bra s,_=>⟨_,_,rfl,by decide⟩
 | .bin k a b,h=>by
   obtain ⟨d,q,e,hd⟩:=a.head h.2.2.2.2.1
   exact ⟨d,q++(binW k++b.text),by simp only [Sen.text,e,List.cons_append],hd⟩
theorem lx_una {k:Int} (hk:unaK k) {s r:List UInt8} (hs:∃ (d:UInt8) (q:List UInt8),s=d::q∧d≠61):LexTo (unaW k) (s++r) [unaT k]:=by
 obtain ⟨d,q,rfl,hd⟩:=hs
 rcases hk with rfl | rfl | rfl | rfl
 ·exact lx_oneq (q++r) (.inl rfl) hd
 ·exact (qcf _ (.inl rfl)).app (LexTo.blank (b:=32) rfl _)
 ·exact (qcf _ (.inr (.inl rfl))).app (LexTo.blank (b:=32) rfl _)
 ·exact (qcf _ (.inr (.inr (.inl rfl)))).app (LexTo.blank (b:=32) rfl _)
theorem lx_bin {k:Int} (hk:binK k) (r:List UInt8):LexTo (binW k) r [binT k]:=by
 have bl:=fun r=>LexTo.blank (b:=32) rfl r
 rcases hk with rfl | rfl | rfl | rfl | rfl
 ·exact (bl _).app ((qfr (p:=[38,38]) _ (by simp)).app (bl _))
 ·exact (bl _).app ((qfr (p:=[124,124]) _ (by simp)).app (bl _))
 ·exact (bl _).app ((qfr (p:=[45,62]) _ (by simp)).app (bl _))
 ·exact (bl _).app ((qcf (c:=85) _ (by simp)).app (bl _))
 ·exact (bl _).app ((qcf (c:=82) _ (by simp)).app (bl _))
theorem noWord.bin {k:Int} (hk:binK k) (r:List UInt8):noWord (binW k++r):=by
 rcases hk with rfl | rfl | rfl | rfl | rfl<;>exact noWord.cons rfl
theorem lx_con (b:Bool) {r:List UInt8} (hr:noWord r):LexTo (conW b) r [(2,conW b,0)]:=by
 cases b
 ·exact lx_word r rfl rfl rfl rfl (by decide) hr
 ·exact lx_word r rfl rfl rfl rfl (by decide) hr
theorem lx_w (c:UInt8) (r:List UInt8) (h:c=120∨c=121∨c=112∨c=113∨c=97∨c=98) (hr:noWord r):LexTo [c] r [(2,[c],0)]:=by
 rcases h with rfl | rfl | rfl | rfl | rfl | rfl<;>exact lx_word r rfl rfl rfl rfl (by decide) hr
theorem lx_atm {i:Nat} (hi:i<6) (r:List UInt8):LexTo (atmsW.getD i []) r ((4,[91],0)::atmsT.getD i []):=by
 have op:=fun r=>lx_one (c:=91) r (by simp)
 have cl:=lx_one (c:=93) r (by simp)
 have at_:=fun r=>lx_one (c:=64) r (by simp)
 match i,hi with
 | 0,_=>exact (op _).app ((lx_w 120 _ (by simp) (noWord.cons rfl)).app ((qfr (p:=[61,61]) _ (by simp)).app ((lx_num (b:=49) _ rfl rfl (noWord.cons rfl)).app cl)))
 | 1,_=>exact (op _).app ((lx_w 112 _ (by simp) (noWord.cons rfl)).app ((at_ _).app ((lx_w 97 _ (by simp) (noWord.cons rfl)).app cl)))
 | 2,_=>exact (op _).app ((lx_w 121 _ (by simp) (noWord.cons rfl)).app ((lx_oneq (c:=60) _ (by simp) (by decide)).app ((lx_num (b:=49) _ rfl rfl (noWord.cons rfl)).app cl)))
 | 3,_=>exact (op _).app ((lx_w 113 _ (by simp) (noWord.cons rfl)).app ((at_ _).app ((lx_w 98 _ (by simp) (noWord.cons rfl)).app ((qfr (p:=[38,38]) _ (by simp)).app ((lx_w 120 _ (by simp) (noWord.cons rfl)).app ((lx_oneq (c:=62) _ (by simp) (by decide)).app ((lx_num (b:=48) _ rfl rfl (noWord.cons rfl)).app cl)))))))
 | 4,_=>exact (op _).app ((lx_w 120 _ (by simp) (noWord.cons rfl)).app ((qfr (p:=[61,61]) _ (by simp)).app ((lx_w 121 _ (by simp) (noWord.cons rfl)).app cl)))
 | 5,_=>exact (op _).app ((lx_w 112 _ (by simp) (noWord.cons rfl)).app ((at_ _).app ((lx_w 98 _ (by simp) (noWord.cons rfl)).app cl)))
theorem Sen.lex:∀ (s:Sen),s.ok→∀ r,noWord r→LexTo s.text r s.toks
 | .con b,_,r,hr=>lx_con b hr
 | .atm i,h,r,_=>lx_atm h r
 | .una k s,h,r,hr=>(lx_una h.1 (s.head h.2.2)).app (s.lex h.2.2 r hr)
 | .bra s,h,r,hr=>(lx_one (c:=40) _ (by simp)).app ((s.lex h _ (noWord.cons rfl)).app (lx_one (c:=41) r (by simp)))
 | .bin k a b,h,r,hr=>by
   obtain ⟨hk,_,_,_,ha,hb⟩:=h
   refine (a.lex ha _ ?_).app ((lx_bin hk _).app (b.lex hb r hr))
   rw [List.append_assoc]
   exact noWord.bin hk _
theorem Sen.lexS (s:Sen) (h:s.ok) (hl:s.text.length≤60000):∃ (tks:List Tok) (x:Int),lexS s.text=(0,0,tks++[(5,[],0,x)])∧tks.map strip=s.toks:=by
 obtain ⟨f',tks,h1,h2,h3⟩:=s.lex h [] noWord.nil (s.text.length+1) 0 [] (by simp)
 rw [List.append_nil] at h3
 obtain ⟨g,rfl⟩:∃ g,f'=g+1:=⟨f'-1,by simp at h2;omega⟩
 refine ⟨tks,((0+s.text.length:Nat):Int),?_,h1⟩
 unfold Av.lexS
 rw [if_neg (by omega),h3]
 rfl
abbrev tk0 (l:List Tok) (a:Nat):Tok:=l.getD a (Ty.dflt ty130)
abbrev tkAt (l:List Tok) (a:Nat):TokS:=strip (tk0 l a)
theorem tk_1 {l:List Tok} {a:Nat} {k n:Int} {w:List UInt8} (h:tkAt l a=(k,w,n)):(tk0 l a).1=k:=congrArg (·.1) h
theorem tk_2 {l:List Tok} {a:Nat} {k n:Int} {w:List UInt8} (h:tkAt l a=(k,w,n)):(tk0 l a).2.1=w:=congrArg (·.2.1) h
theorem tk_3 {l:List Tok} {a:Nat} {k n:Int} {w:List UInt8} (h:tkAt l a=(k,w,n)):(tk0 l a).2.2.1=n:=congrArg (·.2.2) h
def Pre:List TokS→List Tok→Nat→Prop
 | [],_,_=>True
 | t::ts,l,a=>(a<l.length∧tkAt l a=t)∧Pre ts l (a+1)
theorem Pre.app:∀ (s t:List TokS) (l:List Tok) (a:Nat),Pre (s++t) l a↔Pre s l a∧Pre t l (a+s.length)
 | [],t,l,a=>by simp [Pre]
 | x::s,t,l,a=>by
   simp only [List.cons_append,Pre,Pre.app s t l (a+1),List.length_cons,and_assoc]
   rw [show a+1+s.length=a+(s.length+1) by omega]
theorem Pre.of:∀ (tks:List Tok) (pre post:List Tok),Pre (tks.map strip) (pre++(tks++post)) pre.length
 | [],_,_=>trivial
 | t::tks,pre,post=>by
   have h:=Pre.of tks (pre++[t]) post
   simp only [List.length_append,List.length_cons,List.length_nil,List.append_assoc,List.cons_append,List.nil_append] at h
   refine ⟨⟨by simp,?_⟩,h⟩
   show strip ((pre++(t::(tks++post))).getD pre.length _)=strip t
   rw [List.getD_eq_getElem?_getD,List.getElem?_append_right (Nat.le_refl _),Nat.sub_self]
   rfl
theorem is_eq (w:List UInt8) (l:List Tok) (a:Nat) (ha:a<l.length) (bad:Int) (out:List Trm):M193 w l a bad out=some (decide ((tk0 l a).1=4) && ((tk0 l a).2.1 == w),l,(a:Int),bad,out):=by
 show T193 Ops.std w l a bad out some=_
 unfold T193
 simp only [qag,qak,qaa,qab]
 rw [if_pos (by omega)]
 by_cases h:(l.getD a (Ty.dflt ty130)).1=4
 ·rw [if_pos h,if_pos (by omega),decide_eq_true h,Bool.true_and]
 ·rw [if_neg h,decide_eq_false h,Bool.false_and]
def Ex (l:List Tok) (n c a b:Nat) (e:List Trm):Prop:=∀ (d:Nat) (out:List Trm),c≤d→out.length+1000*c≤1000000000→(Rec186 d).1 (n:Nat) l a (-1) out=some (l,(b:Int),-1,out++e)
def Eu (l:List Tok) (c a b:Nat) (e:List Trm):Prop:=∀ (d:Nat) (out:List Trm),c≤d→out.length+1000*c≤1000000000→(Rec186 d).2 l a (-1) out=some (l,(b:Int),-1,out++e)
theorem eu_of {l:List Tok} {a b:Nat} {e:List Trm} (ha:a<l.length) (hk:(tk0 l a).1≠4) (h:∀ (d:Nat) (op:Int) (out:List Trm),op=0→out.length≤1000000000→∀ (p0:List Tok) (p1 p2:Int) (p3:List Trm) (m:Nat),unR d p0 p1 p2 p3 (m+1) (.l1006 op l a (-1) out)=some (l,(b:Int),-1,out++e)):Eu l 1 a b e:=fun d out hd ho=>by
 obtain ⟨g,rfl⟩:∃ g,d=g+1:=⟨d-1,by omega⟩
 show T190 Ops.std M193 (Rec186 g).2 M194 (Rec186 g).1 l a (-1) out (unR g l a (-1) out 1000000) some none=_
 unfold T190
 simp only [qao,qaa]
 have i1:∀ w,M193 w l a (-1) out=some (false,l,(a:Int),-1,out):=fun w=>by
  rw [is_eq w l a ha,decide_eq_false hk,Bool.false_and]
 rw [if_neg (by omega),i1,ob_s]
 dsimp only
 simp only [cond_false]
 rw [i1,ob_s]
 dsimp only
 simp only [cond_false]
 exact h g 0 out rfl (by omega) l a (-1) out 999999
theorem eu_num {l:List Tok} {a:Nat} {w:List UInt8} {n:Int} (ha:a<l.length) (ht:tkAt l a=(1,w,n)) (hll:l.length<100000):Eu l 1 a (a+1) [(1,n,[],[])]:=
 eu_of ha (by rw [tk_1 ht];decide) fun d op out h0 ho p0 p1 p2 p3 m=>by
  show T190 Ops.std _ _ _ _ p0 p1 p2 p3 _ some _=_
  unfold T190
  have hw1:IntKind.wrap IntKind.i64 ((a:Int)+1)=((a+1:Nat):Int):=qae (by omega)
  simp only [qac,qao,qag,qak,qam,qaa,qas,qab,mt,List.length_cons,List.length_nil,hw1]
  rw [if_neg (fun h=>h h0),if_pos (by omega),if_pos (tk_1 ht),if_pos (by omega)]
  show some (l,_,_,out++[(1,(tk0 l a).2.2.1,[],[])])=_
  rw [tk_3 ht]
theorem eu_var {l:List Tok} {a:Nat} {w:List UInt8} (ha:a+1<l.length) (ht:tkAt l a=(2,w,0)) (hn:((tk0 l (a+1)).1=4→(tk0 l (a+1)).2.1≠[64])) (hll:l.length<100000):Eu l 1 a (a+1) [(2,0,w,[])]:=
 eu_of (by omega) (by rw [tk_1 ht];decide) fun d op out h0 ho p0 p1 p2 p3 m=>by
  show T190 Ops.std _ _ _ _ p0 p1 p2 p3 _ some _=_
  unfold T190
  have hw1:IntKind.wrap IntKind.i64 ((a:Int)+1)=((a+1:Nat):Int):=qae (by omega)
  simp only [qac,qao,qag,qak,qam,qaa,qas,qab,mt,List.length_cons,List.length_nil,hw1]
  have i1:M193 [64] l ((a+1:Nat):Int) (-1) out=some (false,l,((a+1:Nat):Int),-1,out):=by
   rw [is_eq _ l (a+1) ha]
   by_cases h:(tk0 l (a+1)).1=4
   ·have:=hn h
    rw [decide_eq_true h,Bool.true_and,beq_false_of_ne this]
   ·rw [decide_eq_false h,Bool.false_and]
  rw [if_neg (fun h=>h h0),if_pos (by omega),if_neg (by rw [tk_1 ht];decide),if_pos (tk_1 ht),i1,ob_s]
  dsimp only
  simp only [cond_false]
  rw [if_pos (by omega)]
  show some (l,_,_,out++[(2,0,(tk0 l a).2.1,[])])=_
  rw [tk_2 ht]
theorem eu_at {l:List Tok} {a:Nat} {w v:List UInt8} (ha:a+2<l.length) (ht:tkAt l a=(2,w,0)) (h1:tkAt l (a+1)=(4,[64],0)) (h2:tkAt l (a+2)=(2,v,0)) (hll:l.length<100000):Eu l 1 a (a+3) [(3,0,w,v)]:=
 eu_of (by omega) (by rw [tk_1 ht];decide) fun d op out h0 ho p0 p1 p2 p3 m=>by
  show T190 Ops.std _ _ _ _ p0 p1 p2 p3 _ some _=_
  unfold T190
  have hw1:IntKind.wrap IntKind.i64 ((a:Int)+1)=((a+1:Nat):Int):=qae (by omega)
  simp only [qac,qao,qag,qak,qam,qaa,qas,qab,mt,List.length_cons,List.length_nil,hw1]
  have i1:M193 [64] l ((a+1:Nat):Int) (-1) out=some (true,l,((a+1:Nat):Int),-1,out):=by
   rw [is_eq _ l (a+1) (by omega),tk_1 h1,tk_2 h1]
   rfl
  rw [if_neg (fun h=>h h0),if_pos (by omega),if_neg (by rw [tk_1 ht];decide),if_pos (tk_1 ht),i1,ob_s]
  dsimp only
  simp only [cond_true]
  have hw2:IntKind.wrap IntKind.i64 (((a+1:Nat):Int)+1)=((a+2:Nat):Int):=qae (by omega)
  have hw3:IntKind.wrap IntKind.i64 (((a+2:Nat):Int)+1)=((a+3:Nat):Int):=qae (by omega)
  simp only [hw2,hw3,qab]
  have hin:(0:Int)≤((a+2:Nat):Int)∧((a+2:Nat):Int)<(l.length:Int):=by omega
  simp only [if_pos hin]
  rw [if_neg (fun h=>h (tk_1 h2)),if_pos (by omega)]
  show some (l,_,_,out++[(3,0,(tk0 l a).2.1,(tk0 l (a+2)).2.1)])=_
  rw [tk_2 ht,tk_2 h2]
def binE (t:TokS) (lv:Int) (op:Int):Prop:=(fun x:Int=>M191 t.1 t.2.1 t.2.2 x lv)=fun _=>some op
theorem binE.at {l:List Tok} {a:Nat} {lv op:Int} (h:binE (tkAt l a) lv op):M191 (l.getD a (Ty.dflt ty130)).1 (l.getD a (Ty.dflt ty130)).2.1 (l.getD a (Ty.dflt ty130)).2.2.1 (l.getD a (Ty.dflt ty130)).2.2.2 lv=some op:=congrFun h _
theorem ex_stop {l:List Tok} {n b:Nat} (hb:b<l.length) (h0:binE (tkAt l b) n 0) (d:Nat) (p1:List Tok) (p2 p3:Int) (p4:List Trm) (m:Nat) (out:List Trm):lvR d n p1 p2 p3 p4 (m+1) (.l0 l b (-1) out)=some (l,(b:Int),-1,out):=by
 show T186 Ops.std _ _ _ n p1 p2 p3 p4 _ some _=_
 unfold T186
 simp only [qac,qag,qak,qam,qaa,qab,mt,List.length_cons,List.length_nil]
 rw [if_pos (by omega),if_pos (by omega),h0.at,ob_s,if_pos rfl]
theorem ex_six {l:List Tok} {c a b:Nat} {e:List Trm} (h:Eu l c a b e):Ex l 6 (c+1) a b e:=fun d out hd ho=>by
 obtain ⟨g,rfl⟩:∃ g,d=g+1:=⟨d-1,by omega⟩
 show T186 Ops.std (Rec186 g).2 (Rec186 g).1 M191 (6:Nat) l a (-1) out (lvR g (6:Nat) l a (-1) out 1000000) some none=_
 unfold T186
 simp only [qac,qaa]
 rw [if_pos (by omega),h g out (by omega) (by omega),ob_s]
theorem ex_first {l:List Tok} {n c a b:Nat} {e:List Trm} (hn:n≤5) (h:Ex l (n+1) c a b e) (d:Nat) (out:List Trm) (hd:c≤d) (ho:out.length+1000*c≤1000000000):(Rec186 (d+1)).1 (n:Nat) l a (-1) out=lvR d n l a (-1) out 1000000 (.l0 l b (-1) (out++e)):=by
 show T186 Ops.std (Rec186 d).2 (Rec186 d).1 M191 n l a (-1) out (lvR d n l a (-1) out 1000000) some none=_
 unfold T186
 simp only [qac,qaa]
 rw [if_neg (by omega),show IntKind.wrap IntKind.i64 ((n:Int)+1)=((n+1:Nat):Int) from qae (by omega),h d out hd ho,ob_s]
theorem qe8 {l:List Tok} {n c a b:Nat} {e:List Trm} (hn:n≤5) (h:Ex l (n+1) c a b e) (hb:b<l.length) (h0:binE (tkAt l b) n 0):Ex l n (c+1) a b e:=fun d out hd ho=>by
 obtain ⟨g,rfl⟩:∃ g,d=g+1:=⟨d-1,by omega⟩
 rw [ex_first hn h g out (by omega) (by omega)]
 exact ex_stop hb h0 g l a (-1) out 999999 _
theorem ex_bin {l:List Tok} {n c c2 a m b:Nat} {e e2:List Trm} {op:Int} (hn:n≤5) (h:Ex l (n+1) c a m e) (he:e.length≤1000) (hm:m<l.length) (h1:binE (tkAt l m) n op) (hop:op≠0) (h2:Ex l (n+1) c2 (m+1) b e2) (he2:e2.length≤1000) (hb:b<l.length) (h0:n=3∨binE (tkAt l b) n 0) (hll:l.length<100000) (hc:c2≤c):Ex l n (c+1) a b (e++e2++[(op,0,[],[])]):=fun d out hd ho=>by
 obtain ⟨g,rfl⟩:∃ g,d=g+1:=⟨d-1,by omega⟩
 rw [ex_first hn h g out (by omega) (by omega)]
 show T186 Ops.std _ _ _ n l a (-1) out (lvR g n l a (-1) out 999999) some _=_
 unfold T186
 simp only [qac,qag,qak,qam,qaa,qab,mt,List.length_cons,List.length_nil]
 have hw:IntKind.wrap IntKind.i64 ((n:Int)+1)=((n+1:Nat):Int):=qae (by omega)
 have hw2:IntKind.wrap IntKind.i64 ((m:Int)+1)=((m+1:Nat):Int):=qae (by omega)
 rw [if_pos (by omega),if_pos (by omega),h1.at,ob_s,if_neg hop,hw,hw2,h2 g (out++e) (by omega) (by simp;omega),ob_s]
 dsimp only
 rw [if_pos (by simp only [List.length_append];omega)]
 by_cases h3:(n:Int)=3
 ·rw [if_pos h3];simp only [List.append_assoc]
 ·rw [if_neg h3]
  rcases h0 with h0 | h0
  ·omega
  ·have:=ex_stop hb h0 g l a (-1) out 999998 (out++e++e2++[(op,0,[],[])])
   simp only [List.append_assoc] at this ⊢
   exact this
theorem qdn {l:List Tok} {c a b:Nat} {e:List Trm} (h:Ex l 1 c a b e) (hc:c≤1000) (he:e.length≤30) (hab:a<l.length):M177 l a=some ((b:Int),0,e):=by
 show T177 Ops.std M186 l a some=_
 unfold T177
 simp only [qao,qac,qaa]
 have f1':M186 1 l (a:Int) (-1) []=some (l,(b:Int),-1,e):=h 1000000 [] (by omega) (by simp;omega)
 rw [f1',ob_s]
 dsimp only
 rw [if_neg (by omega),if_neg (by omega)]
theorem qfs:binE (4,[61,61],0) 5 0∧binE (4,[61,61],0) 4 0∧binE (4,[61,61],0) 3 13:=⟨by unfold binE;kernel_rfl,by unfold binE;kernel_rfl,by unfold binE;kernel_rfl⟩
theorem be_lt:binE (4,[60],0) 5 0∧binE (4,[60],0) 4 0∧binE (4,[60],0) 3 9:=⟨by unfold binE;kernel_rfl,by unfold binE;kernel_rfl,by unfold binE;kernel_rfl⟩
theorem be_gt:binE (4,[62],0) 5 0∧binE (4,[62],0) 4 0∧binE (4,[62],0) 3 11:=⟨by unfold binE;kernel_rfl,by unfold binE;kernel_rfl,by unfold binE;kernel_rfl⟩
theorem be_and:binE (4,[38,38],0) 5 0∧binE (4,[38,38],0) 4 0∧binE (4,[38,38],0) 3 0∧binE (4,[38,38],0) 2 15:=⟨by unfold binE;kernel_rfl,by unfold binE;kernel_rfl,by unfold binE;kernel_rfl,by unfold binE;kernel_rfl⟩
theorem be_end:binE (4,[93],0) 5 0∧binE (4,[93],0) 4 0∧binE (4,[93],0) 3 0∧binE (4,[93],0) 2 0∧binE (4,[93],0) 1 0:=⟨by unfold binE;kernel_rfl,by unfold binE;kernel_rfl,by unfold binE;kernel_rfl,by unfold binE;kernel_rfl,by unfold binE;kernel_rfl⟩
theorem ex_cmp {l:List Tok} (hll:l.length<100000) {a:Nat} {e e2:List Trm} {t u:TokS} {op:Int} (h1:Eu l 1 a (a+1) e) (he:e.length=1) (h2:Eu l 1 (a+2) (a+3) e2) (he2:e2.length=1) (ha:a+3<l.length)
  (ht:tkAt l (a+1)=t) (b5:binE t 5 0) (b4:binE t 4 0) (b3:binE t 3 op) (hop:op≠0) (hu:tkAt l (a+3)=u) (c5:binE u 5 0) (c4:binE u 4 0):Ex l 3 5 a (a+3) (e++e2++[(op,0,[],[])]):=by
 have x5:=qe8 (n:=5) (by omega) (ex_six h1) (by omega) (by rw [ht];exact b5)
 have x4:=qe8 (n:=4) (by omega) x5 (by omega) (by rw [ht];exact b4)
 have y5:=qe8 (n:=5) (by omega) (ex_six h2) (by omega) (by rw [hu];exact c5)
 have y4:=qe8 (n:=4) (by omega) y5 (by omega) (by rw [hu];exact c4)
 exact ex_bin (n:=3) (by omega) x4 (by omega) (by omega) (by rw [ht];exact b3) hop y4 (by omega) (by omega) (.inl rfl) hll (Nat.le_refl _)
theorem ex_top {l:List Tok} {c a b:Nat} {e:List Trm} (h:Ex l 3 c a b e) (hb:b<l.length) (hu:tkAt l b=(4,[93],0)):Ex l 1 (c+2) a b e:=by
 obtain ⟨c5,c4,c3,c2,c1⟩:=be_end
 exact qe8 (n:=1) (by omega) (qe8 (n:=2) (by omega) h hb (by rw [hu];exact c2)) hb (by rw [hu];exact c1)
theorem ex_at3 {l:List Tok} {a b:Nat} {e:List Trm} {u:TokS} (h:Eu l 1 a b e) (hb:b<l.length) (hu:tkAt l b=u) (c5:binE u 5 0) (c4:binE u 4 0) (c3:binE u 3 0):Ex l 3 5 a b e:=
 qe8 (n:=3) (by omega) (qe8 (n:=4) (by omega) (qe8 (n:=5) (by omega) (ex_six h) hb (by rw [hu];exact c5)) hb (by rw [hu];exact c4)) hb (by rw [hu];exact c3)
def atmsE:List (List Trm):=[[(2,0,[120],[]),(1,1,[],[]),(13,0,[],[])],[(3,0,[112],[97])],[(2,0,[121],[]),(1,1,[],[]),(9,0,[],[])],[(3,0,[113],[98]),(2,0,[120],[]),(1,0,[],[]),(11,0,[],[]),(15,0,[],[])],[(2,0,[120],[]),(2,0,[121],[]),(13,0,[],[])],[(3,0,[112],[98])]]
theorem atm_take {l:List Tok} (hll:l.length<100000) {i a:Nat} (hi:i<6) (h:Pre (atmsT.getD i []) l a):∃ k:Nat,a+(atmsT.getD i []).length=k+1∧k<l.length∧tkAt l k=(4,[93],0)∧M177 l a=some ((k:Int),0,atmsE.getD i []):=by
 obtain ⟨c5,c4,c3,c2,c1⟩:=be_end
 have no:∀ {b:Nat} {k n:Int} {w:List UInt8},tkAt l b=(k,w,n)→w≠[64]→((tk0 l b).1=4→(tk0 l b).2.1≠[64]):=fun hb hw _=>by rw [tk_2 hb];exact hw
 match i,hi,h with
 | 0,_,⟨⟨g0,t0⟩,⟨g1,t1⟩,⟨g2,t2⟩,⟨g3,t3⟩,_⟩=>
   refine ⟨a+3,rfl,g3,t3,qdn (ex_top (ex_cmp hll (eu_var g1 t0 (no t1 (by decide)) hll) rfl (eu_num g2 t2 hll) rfl g3 t1 qfs.1 qfs.2.1 qfs.2.2 (by decide) t3 c5 c4) g3 t3) (by omega) (by decide) g0⟩
 | 1,_,⟨⟨g0,t0⟩,⟨g1,t1⟩,⟨g2,t2⟩,⟨g3,t3⟩,_⟩=>
   exact ⟨a+3,rfl,g3,t3,qdn (ex_top (ex_at3 (eu_at g2 t0 t1 t2 hll) g3 t3 c5 c4 c3) g3 t3) (by omega) (by decide) g0⟩
 | 2,_,⟨⟨g0,t0⟩,⟨g1,t1⟩,⟨g2,t2⟩,⟨g3,t3⟩,_⟩=>
   exact ⟨a+3,rfl,g3,t3,qdn (ex_top (ex_cmp hll (eu_var g1 t0 (no t1 (by decide)) hll) rfl (eu_num g2 t2 hll) rfl g3 t1 be_lt.1 be_lt.2.1 be_lt.2.2 (by decide) t3 c5 c4) g3 t3) (by omega) (by decide) g0⟩
 | 3,_,⟨⟨g0,t0⟩,⟨g1,t1⟩,⟨g2,t2⟩,⟨g3,t3⟩,⟨g4,t4⟩,⟨g5,t5⟩,⟨g6,t6⟩,⟨g7,t7⟩,_⟩=>
   have x3:=ex_at3 (eu_at g2 t0 t1 t2 hll) g3 t3 be_and.1 be_and.2.1 be_and.2.2.1
   have y3:=ex_cmp hll (a:=a+4) (eu_var g5 t4 (no t5 (by decide)) hll) rfl (eu_num g6 t6 hll) rfl g7 t5 be_gt.1 be_gt.2.1 be_gt.2.2 (by decide) t7 c5 c4
   have z2:=ex_bin (n:=2) (by omega) x3 (by simp) g3 (by rw [t3];exact be_and.2.2.2) (by decide) y3 (by simp) g7 (.inr (by rw [t7];exact c2)) hll (Nat.le_refl _)
   exact ⟨a+7,rfl,g7,t7,qdn (qe8 (n:=1) (by omega) z2 g7 (by rw [t7];exact c1)) (by omega) (by decide) g0⟩
 | 4,_,⟨⟨g0,t0⟩,⟨g1,t1⟩,⟨g2,t2⟩,⟨g3,t3⟩,_⟩=>
   exact ⟨a+3,rfl,g3,t3,qdn (ex_top (ex_cmp hll (eu_var g1 t0 (no t1 (by decide)) hll) rfl (eu_var g3 t2 (no t3 (by decide)) hll) rfl g3 t1 qfs.1 qfs.2.1 qfs.2.2 (by decide) t3 c5 c4) g3 t3) (by omega) (by decide) g0⟩
 | 5,_,⟨⟨g0,t0⟩,⟨g1,t1⟩,⟨g2,t2⟩,⟨g3,t3⟩,_⟩=>
   exact ⟨a+3,rfl,g3,t3,qdn (ex_top (ex_at3 (eu_at g2 t0 t1 t2 hll) g3 t3 c5 c4 c3) g3 t3) (by omega) (by decide) g0⟩
theorem qdo (w:List UInt8) (l:List Tok) (a:Nat) (ha:a<l.length) (bad pl:Int) (out:List Prt):M175 w l a bad pl out=some (decide ((tk0 l a).1=4) && ((tk0 l a).2.1 == w),l,(a:Int),bad,pl,out):=by
 show T175 Ops.std w l a bad pl out some=_
 unfold T175
 simp only [qag,qak,qaa,qab]
 rw [if_pos (by omega)]
 by_cases h:(l.getD a (Ty.dflt ty130)).1=4
 ·rw [if_pos h,if_pos (by omega),decide_eq_true h,Bool.true_and]
 ·rw [if_neg h,decide_eq_false h,Bool.false_and]
theorem close_eq {l:List Tok} (hll:l.length<100000) {w:List UInt8} {a:Nat} (ha:a<l.length) (ht:tkAt l a=(4,w,0)) (pl:Int) (out:List Prt):M176 w l a 0 pl out=some (l,((a+1:Nat):Int),0,pl,out):=by
 have hd:M176 w l a 0 pl out=T176 Ops.std M175 M84 w l a 0 pl out some:=rfl
 rw [hd]
 unfold T176
 simp only [qak,qas,qaa]
 rw [if_neg (by simp),qdo w l a ha,tk_1 ht,tk_2 ht,ob_s]
 dsimp only
 simp only [decide_true,Bool.true_and,beq_self_eq_true,Bool.not_true,cond_false]
 rw [show IntKind.wrap IntKind.i64 ((a:Int)+1)=((a+1:Nat):Int) from qae (by omega)]
def infK (t:TokS) (n:Nat):Int:=
 if n=1 then (if decide (t.1=4) && (t.2.1 == [45,62]) then 7 else 0)
 else if n=2 then (if decide (t.1=4) && (t.2.1 == [124,124]) then 6 else 0)
 else if n=3 then (if decide (t.1=4) && (t.2.1 == [38,38]) then 5 else 0)
 else if decide (t.1=3) && (t.2.1 == [85]) then 9 else if decide (t.1=3) && (t.2.1 == [82]) then 10 else 0
theorem inf_z (l:List Tok) (a:Nat) (bad pl:Int) (out:List Prt) (n:Nat) (p0:Int) (p1:List Tok) (p2 p3 p4:Int) (p5:List Prt):R142 M175 p0 p1 p2 p3 p4 p5 (n+1) (.l1012 l a bad pl out)=some (0,l,(a:Int),bad,pl,out):=by
 show T142 Ops.std _ p0 p1 p2 p3 p4 p5 _ some _=_
 unfold T142
 rfl
theorem infix_eq (l:List Tok) (a:Nat) (ha:a<l.length) (bad pl:Int) (out:List Prt) (n:Nat) (h1:1≤n) (h4:n≤4):M142 (n:Nat) l a bad pl out=some (infK (tkAt l a) n,l,(a:Int),bad,pl,out):=by
 have hz:=inf_z l a bad pl out 999999 (n:Nat) l a bad pl out
 show T142 Ops.std M175 (n:Nat) l a bad pl out (R142 M175 (n:Nat) l a bad pl out 1000000) some none=_
 have hin:(0:Int)≤(a:Int)∧(a:Int)<(l.length:Int):=by omega
 have sg:=fun w=>qdo w l a ha bad pl out
 unfold T142
 unfold infK tkAt strip tk0
 have hn:n=1∨n=2∨n=3∨n=4:=by omega
 rcases hn with rfl | rfl | rfl | rfl
 ·have e2:¬ ((1:Nat):Int)=2:=by decide
  have e3:¬ ((1:Nat):Int)=3:=by decide
  have e4:¬ ((1:Nat):Int)=4:=by decide
  have e1:((1:Nat):Int)=1:=rfl
  simp only [qag,qak,qaa,qab,if_pos hin,if_neg e2,if_neg e3,if_neg e4,if_pos e1,sg,ob_s,if_true]
  cases (decide ((l.getD a (Ty.dflt ty130)).1=4) && ((l.getD a (Ty.dflt ty130)).2.1 == [45,62])) with
  | true=>rfl
  | false=>exact hz
 ·have e2:¬ ((2:Nat):Int)=1:=by decide
  have e3:¬ ((2:Nat):Int)=3:=by decide
  have e4:¬ ((2:Nat):Int)=4:=by decide
  have e1:((2:Nat):Int)=2:=rfl
  simp only [qag,qak,qaa,qab,if_pos hin,if_neg e2,if_neg e3,if_neg e4,if_pos e1,sg,ob_s,if_true,if_neg (show ¬ (2:Nat)=1 by decide)]
  cases (decide ((l.getD a (Ty.dflt ty130)).1=4) && ((l.getD a (Ty.dflt ty130)).2.1 == [124,124])) with
  | true=>rfl
  | false=>exact hz
 ·have e2:¬ ((3:Nat):Int)=1:=by decide
  have e3:¬ ((3:Nat):Int)=2:=by decide
  have e4:¬ ((3:Nat):Int)=4:=by decide
  have e1:((3:Nat):Int)=3:=rfl
  simp only [qag,qak,qaa,qab,if_pos hin,if_neg e2,if_neg e3,if_neg e4,if_pos e1,sg,ob_s,if_true,if_neg (show ¬ (3:Nat)=1 by decide),if_neg (show ¬ (3:Nat)=2 by decide)]
  cases (decide ((l.getD a (Ty.dflt ty130)).1=4) && ((l.getD a (Ty.dflt ty130)).2.1 == [38,38])) with
  | true=>rfl
  | false=>exact hz
 ·have e2:¬ ((4:Nat):Int)=1:=by decide
  have e3:¬ ((4:Nat):Int)=2:=by decide
  have e4:¬ ((4:Nat):Int)=3:=by decide
  have e1:((4:Nat):Int)=4:=rfl
  simp only [qag,qak,qaa,qab,if_pos hin,if_neg e2,if_neg e3,if_neg e4,if_pos e1,if_neg (show ¬ (4:Nat)=1 by decide),if_neg (show ¬ (4:Nat)=2 by decide),if_neg (show ¬ (4:Nat)=3 by decide)]
  by_cases hk3:(l.getD a (Ty.dflt ty130)).1=3
  ·simp only [if_pos hk3,decide_eq_true hk3,Bool.true_and]
   cases (l.getD a (Ty.dflt ty130)).2.1 == ([85]:List UInt8) with
   | true=>rfl
   | false=>
     simp only [cond_false,Bool.false_eq_true,if_false]
     cases (l.getD a (Ty.dflt ty130)).2.1 == ([82]:List UInt8) with
     | true=>rfl
     | false=>exact hz
  ·simp only [if_neg hk3,decide_eq_false hk3,Bool.false_and,Bool.false_eq_true,if_false]
   exact hz
def Fx (l:List Tok) (n c a b:Nat) (e:List Prt):Prop:=∀ (d:Nat) (pl:Int) (out:List Prt),c≤d→out.length+1000*c≤1000000000→(Rec83 d).1 (n:Nat) l a 0 pl out=some (l,(b:Int),0,pl,out++e)
def Fu (l:List Tok) (c a b:Nat) (e:List Prt):Prop:=∀ (d:Nat) (pl:Int) (out:List Prt),c≤d→out.length+1000*c≤1000000000→(Rec83 d).2 l a 0 pl out=some (l,(b:Int),0,pl,out++e)
theorem Fx.more {l:List Tok} {n c c' a b:Nat} {e:List Prt} (h:Fx l n c a b e) (hc:c≤c'):Fx l n c' a b e:=fun d pl out hd ho=>h d pl out (by omega) (by omega)
theorem Fu.more {l:List Tok} {c c' a b:Nat} {e:List Prt} (h:Fu l c a b e) (hc:c≤c'):Fu l c' a b e:=fun d pl out hd ho=>h d pl out (by omega) (by omega)
theorem fx_stop {l:List Tok} {n b:Nat} (hn1:1≤n) (hn4:n≤4) (hb:b<l.length) (h0:infK (tkAt l b) n=0) (d:Nat) (p1:List Tok) (p2 p3 p4:Int) (p5:List Prt) (m:Nat) (pl:Int) (out:List Prt):flR d n p1 p2 p3 p4 p5 (m+1) (.l0 l b 0 pl out)=some (l,(b:Int),0,pl,out):=by
 show T83 Ops.std _ _ _ n p1 p2 p3 p4 p5 _ some _=_
 unfold T83
 simp only [qac,qag,qak,qam,qaa,qab,mt,List.length_cons,List.length_nil]
 rw [if_pos trivial,infix_eq l b hb 0 pl out n hn1 hn4,h0,ob_s]
 dsimp only
 rw [if_pos rfl]
theorem fx_five {l:List Tok} {c a b:Nat} {e:List Prt} (h:Fu l c a b e):Fx l 5 (c+1) a b e:=fun d pl out hd ho=>by
 obtain ⟨g,rfl⟩:∃ g,d=g+1:=⟨d-1,by omega⟩
 show T83 Ops.std (Rec83 g).2 (Rec83 g).1 M142 (5:Nat) l a 0 pl out (flR g (5:Nat) l a 0 pl out 1000000) some none=_
 unfold T83
 simp only [qac,qaa]
 rw [if_pos (by omega),h g pl out (by omega) (by omega),ob_s]
theorem fx_first {l:List Tok} {n c a b:Nat} {e:List Prt} (hn:n≤4) (h:Fx l (n+1) c a b e) (d:Nat) (pl:Int) (out:List Prt) (hd:c≤d) (ho:out.length+1000*c≤1000000000):(Rec83 (d+1)).1 (n:Nat) l a 0 pl out=flR d n l a 0 pl out 1000000 (.l0 l b 0 pl (out++e)):=by
 show T83 Ops.std (Rec83 d).2 (Rec83 d).1 M142 n l a 0 pl out (flR d n l a 0 pl out 1000000) some none=_
 unfold T83
 simp only [qac,qaa]
 rw [if_neg (by omega),show IntKind.wrap IntKind.i64 ((n:Int)+1)=((n+1:Nat):Int) from qae (by omega),h d pl out hd ho,ob_s]
theorem fx_up {l:List Tok} {n c a b:Nat} {e:List Prt} (hn1:1≤n) (hn:n≤4) (h:Fx l (n+1) c a b e) (hb:b<l.length) (h0:infK (tkAt l b) n=0):Fx l n (c+1) a b e:=fun d pl out hd ho=>by
 obtain ⟨g,rfl⟩:∃ g,d=g+1:=⟨d-1,by omega⟩
 rw [fx_first hn h g pl out (by omega) (by omega)]
 exact fx_stop hn1 hn hb h0 g l a 0 pl out 999999 pl _
theorem fx_bin {l:List Tok} {n k c c2 a m b:Nat} {e e2:List Prt} {op:Int} (hn1:1≤n) (hn:n≤4) (h:Fx l (n+1) c a m e) (he:e.length≤1000) (hm:m<l.length) (h1:infK (tkAt l m) n=op) (hop:op≠0) (hk:k=if n=1∨n=4 then n else n+1) (h2:Fx l k c2 (m+1) b e2) (he2:e2.length≤1000) (hb:b<l.length) (h0:infK (tkAt l b) n=0) (hll:l.length<100000) (hc:c2≤c):Fx l n (c+1) a b (e++e2++[(op,[])]):=fun d pl out hd ho=>by
 obtain ⟨g,rfl⟩:∃ g,d=g+1:=⟨d-1,by omega⟩
 rw [fx_first hn h g pl out (by omega) (by omega)]
 show T83 Ops.std _ _ _ n l a 0 pl out (flR g n l a 0 pl out 999999) some _=_
 unfold T83
 simp only [qac,qag,qak,qam,qaa,qab,mt,List.length_cons,List.length_nil]
 have hw:IntKind.wrap IntKind.i64 ((n:Int)+1)=((n+1:Nat):Int):=qae (by omega)
 have hw2:IntKind.wrap IntKind.i64 ((m:Int)+1)=((m+1:Nat):Int):=qae (by omega)
 rw [if_pos trivial,infix_eq l m hm 0 pl (out++e) n hn1 hn,h1,ob_s]
 dsimp only
 rw [if_neg hop,hw,hw2]
 have hst:=fx_stop hn1 hn hb h0 g l a 0 pl out 999998 pl (out++e++e2++[(op,[])])
 have key:(ob ((Rec83 g).1 (k:Nat) l ((m+1:Nat):Int) 0 pl (out++e)) fun y1=>if (y1.2.2.2.2.length+(0+1))*32≤140737488355328 then flR g n l a 0 pl out 999999 (.l0 y1.1 y1.2.1 y1.2.2.1 y1.2.2.2.1 (y1.2.2.2.2++[(op,[])])) else none)=some (l,(b:Int),0,pl,out++(e++e2++[(op,[])])):=by
  rw [h2 g pl (out++e) (by omega) (by simp;omega),ob_s]
  dsimp only
  rw [if_pos (by simp only [List.length_append];omega),hst]
  simp only [List.append_assoc]
 by_cases hq1:(n:Int)=1
 ·rw [if_pos hq1]
  rw [hk,if_pos (by omega)] at key
  exact key
 ·rw [if_neg hq1]
  by_cases hq4:(n:Int)=4
  ·rw [if_pos hq4]
   rw [hk,if_pos (by omega)] at key
   exact key
  ·rw [if_neg hq4]
   rw [hk,if_neg (by omega)] at key
   exact key
def opOf (t:TokS):Int:=if decide (t.1=4) && (t.2.1 == [33]) then 4 else if t.1=3 then (if t.2.1 == [88] then 8 else if t.2.1 == [70] then 11 else if t.2.1 == [71] then 12 else 0) else 0
theorem fu_of {l:List Tok} {a:Nat} (ha:a<l.length) {op:Int} (hop:opOf (tkAt l a)=op) (d:Nat) (pl:Int) (out:List Prt) {r:Option (List Tok×Int×Int×Int×List Prt)}
  (h:∀ (p0:List Tok) (p1 p2 p3:Int) (p4:List Prt) (x7 x8:Int) (m:Nat),fuR d p0 p1 p2 p3 p4 (m+2) (.l1011 op l a 0 pl (tk0 l a).1 (tk0 l a).2.1 x7 x8 out)=r):(Rec83 (d+1)).2 l a 0 pl out=r:=by
 show T141 Ops.std M175 (Rec83 d).2 (Rec83 d).1 M176 M177 M84 l a 0 pl out (fuR d l a 0 pl out 1000000) some none=_
 unfold T141
 simp only [qag,qak,qas,qaa,qab]
 rw [if_neg (by simp),if_pos (by omega)]
 have g1':M175 (Array.toList (ByteArray.data { data:=List.toArray (33::mt UInt8) })) l a 0 pl out=_:=qdo [33] l a ha 0 pl out
 rw [g1',ob_s]
 dsimp only
 have h':=fun x7 x8=>h l a 0 pl out x7 x8 999998
 clear h g1'
 subst hop
 unfold opOf tkAt strip tk0 at h'
 unfold tk0
 cases hb:(decide ((l.getD a (Ty.dflt ty130)).1=4) && ((l.getD a (Ty.dflt ty130)).2.1 == [33])) with
 | true=>simp only [hb,if_true] at h';exact h' _ _
 | false=>
   simp only [hb,Bool.false_eq_true,if_false] at h'
   simp only [cond_false]
   by_cases hk3:(l.getD a (Ty.dflt ty130)).1=3
   ·simp only [if_pos hk3] at h' ⊢
    cases hb8:(l.getD a (Ty.dflt ty130)).2.1 == ([88]:List UInt8) with
    | true=>
      simp only [hb8,if_true] at h'
      exact h' _ _
    | false=>
      simp only [hb8,Bool.false_eq_true,if_false] at h'
      simp only [cond_false]
      cases hb7:(l.getD a (Ty.dflt ty130)).2.1 == ([70]:List UInt8) with
      | true=>
        simp only [hb7,if_true] at h'
        exact h' _ _
      | false=>
        simp only [hb7,Bool.false_eq_true,if_false] at h'
        simp only [cond_false]
        cases hb6:(l.getD a (Ty.dflt ty130)).2.1 == ([71]:List UInt8) with
        | true=>
          simp only [hb6,if_true] at h'
          exact h' _ _
        | false=>
          simp only [hb6,Bool.false_eq_true,if_false] at h'
          exact h' _ _
   ·simp only [if_neg hk3] at h' ⊢
    exact h' _ _
theorem opOf_una {k:Int} (hk:unaK k):opOf (unaT k)=k:=by
 rcases hk with rfl | rfl | rfl | rfl<;>rfl
theorem fu_una {l:List Tok} (hll:l.length<100000) {c a b:Nat} {e:List Prt} {k:Int} (hk:unaK k) (ha:a<l.length) (ht:tkAt l a=unaT k) (h:Fu l c (a+1) b e) (he:e.length≤1000):Fu l (c+1) a b (e++[(k,[])]):=fun d pl out hd ho=>by
 obtain ⟨g,rfl⟩:∃ g,d=g+1:=⟨d-1,by omega⟩
 refine fu_of ha (op:=k) (by rw [ht];exact opOf_una hk) g pl out fun p0 p1 p2 p3 p4 x7 x8 m=>?_
 show T141 Ops.std _ _ _ _ _ _ p0 p1 p2 p3 p4 _ some _=_
 unfold T141
 have hw1:IntKind.wrap IntKind.i64 ((a:Int)+1)=((a+1:Nat):Int):=qae (by omega)
 simp only [qac,qao,qag,qak,qam,qaa,qas,qab,mt,List.length_cons,List.length_nil,hw1]
 have h0:k≠0:=by rcases hk with rfl | rfl | rfl | rfl<;>decide
 rw [if_pos h0,h g pl out (by omega) (by omega),ob_s]
 dsimp only
 rw [if_pos (by simp only [List.length_append];omega)]
 simp only [List.append_assoc]
theorem fu_con {l:List Tok} (hll:l.length<100000) {a:Nat} (b:Bool) (ha:a<l.length) (ht:tkAt l a=(2,conW b,0)):Fu l 1 a (a+1) [(if b then 1 else 2,[])]:=fun d pl out hd ho=>by
 obtain ⟨g,rfl⟩:∃ g,d=g+1:=⟨d-1,by omega⟩
 refine fu_of ha (op:=0) (by rw [ht];cases b<;>rfl) g pl out fun p0 p1 p2 p3 p4 x7 x8 m=>?_
 show T141 Ops.std _ _ _ _ _ _ p0 p1 p2 p3 p4 _ some _=_
 unfold T141
 have hw1:IntKind.wrap IntKind.i64 ((a:Int)+1)=((a+1:Nat):Int):=qae (by omega)
 simp only [qac,qao,qag,qak,qam,qaa,qas,qab,mt,List.length_cons,List.length_nil,hw1,tk_1 ht,tk_2 ht]
 simp only [not_true_eq_false,if_false,if_true]
 cases b with
 | true=>
   show cond true _ _=_
   simp only [cond_true]
   rw [if_pos (by omega)]
   rfl
 | false=>
   show cond false _ (cond true _ _)=_
   simp only [cond_true,cond_false]
   show T141 Ops.std _ _ _ _ _ _ p0 p1 p2 p3 p4 _ some _=_
   unfold T141
   simp only [qam,qaa,mt,List.length_cons,List.length_nil]
   rw [if_pos (by omega)]
   rfl
theorem fu_bra {l:List Tok} (hll:l.length<100000) {c a b:Nat} {e:List Prt} (ha:a<l.length) (ht:tkAt l a=(4,[40],0)) (h:Fx l 1 c (a+1) b e) (hb:b<l.length) (hu:tkAt l b=(4,[41],0)):Fu l (c+1) a (b+1) e:=fun d pl out hd ho=>by
 obtain ⟨g,rfl⟩:∃ g,d=g+1:=⟨d-1,by omega⟩
 refine fu_of ha (op:=0) (by rw [ht];rfl) g pl out fun p0 p1 p2 p3 p4 x7 x8 m=>?_
 show T141 Ops.std _ _ _ _ _ _ p0 p1 p2 p3 p4 _ some _=_
 unfold T141
 have hw1:IntKind.wrap IntKind.i64 ((a:Int)+1)=((a+1:Nat):Int):=qae (by omega)
 simp only [qac,qao,qag,qak,qam,qaa,qas,qab,mt,List.length_cons,List.length_nil,hw1,tk_1 ht,tk_2 ht]
 have s1:M175 [40] l (a:Int) 0 pl out=some (true,l,(a:Int),0,pl,out):=by rw [qdo [40] l a ha,tk_1 ht,tk_2 ht];rfl
 have s1':M175 (Array.toList (ByteArray.data { data:=List.toArray [40] })) l (a:Int) 0 pl out=some (true,l,(a:Int),0,pl,out):=s1
 simp only [not_true_eq_false,if_false,if_true]
 try rw [if_neg (by decide)]
 first | rw [s1] | rw [s1']
 rw [ob_s]
 dsimp only
 simp only [cond_true,hw1]
 try rw [if_neg (show ¬ (4:Int)=2 by decide)]
 show T141 Ops.std _ _ _ _ _ _ p0 p1 p2 p3 p4 _ some _=_
 unfold T141
 dsimp only
 have f1':(Rec83 g).1 1 l ((a+1:Nat):Int) 0 pl out=some (l,(b:Int),0,pl,out++e):=h g pl out (by omega) (by omega)
 rw [f1',ob_s]
 dsimp only
 have q1':M176 (Array.toList (ByteArray.data { data:=List.toArray [41] })) l b 0 pl (out++e)=_:=close_eq hll hb hu pl (out++e)
 rw [q1',ob_s]
theorem fu_atm {l:List Tok} (hll:l.length<100000) {a k:Nat} {x:List Trm} (ha:a<l.length) (ht:tkAt l a=(4,[91],0)) (h:M177 l ((a+1:Nat):Int)=some ((k:Int),0,x)) (hk:k<l.length) (hu:tkAt l k=(4,[93],0)):Fu l 1 a (k+1) [(3,x)]:=fun d pl out hd ho=>by
 obtain ⟨g,rfl⟩:∃ g,d=g+1:=⟨d-1,by omega⟩
 refine fu_of ha (op:=0) (by rw [ht];rfl) g pl out fun p0 p1 p2 p3 p4 x7 x8 m=>?_
 show T141 Ops.std _ _ _ _ _ _ p0 p1 p2 p3 p4 _ some _=_
 unfold T141
 have hw1:IntKind.wrap IntKind.i64 ((a:Int)+1)=((a+1:Nat):Int):=qae (by omega)
 simp only [qac,qao,qag,qak,qam,qaa,qas,qab,mt,List.length_cons,List.length_nil,hw1,tk_1 ht,tk_2 ht]
 have s1:M175 [40] l (a:Int) 0 pl out=some (false,l,(a:Int),0,pl,out):=by rw [qdo [40] l a ha,tk_1 ht,tk_2 ht];rfl
 have s1':M175 (Array.toList (ByteArray.data { data:=List.toArray [40] })) l (a:Int) 0 pl out=some (false,l,(a:Int),0,pl,out):=s1
 have s2:M175 [91] l (a:Int) 0 pl out=some (true,l,(a:Int),0,pl,out):=by rw [qdo [91] l a ha,tk_1 ht,tk_2 ht];rfl
 have s2':M175 (Array.toList (ByteArray.data { data:=List.toArray [91] })) l (a:Int) 0 pl out=some (true,l,(a:Int),0,pl,out):=s2
 simp only [not_true_eq_false,if_false,if_true]
 try rw [if_neg (by decide)]
 first | rw [s1] | rw [s1']
 rw [ob_s]
 dsimp only
 simp only [cond_false]
 first | rw [s2] | rw [s2']
 rw [ob_s]
 dsimp only
 simp only [cond_true]
 try rw [if_neg (show ¬ (4:Int)=2 by decide)]
 show T141 Ops.std _ _ _ _ _ _ p0 p1 p2 p3 p4 _ some _=_
 unfold T141
 simp only [qak,qam,qaa,mt,List.length_cons,List.length_nil,hw1]
 rw [h,ob_s]
 dsimp only
 rw [if_neg (by decide),if_neg (by decide),if_pos (by omega)]
 have q1':M176 (Array.toList (ByteArray.data { data:=List.toArray [93] })) l k 0 pl (out++[(3,x)])=_:=close_eq hll hk hu pl (out++[(3,x)])
 rw [q1',ob_s]
def Sen.tree:Sen→Fm Trm
 | .con b=>.nul (if b then 1 else 2,[])
 | .atm i=>.nul (3,atmsE.getD i [])
 | .una k s=>.un (k,[]) s.tree
 | .bra s=>s.tree
 | .bin k a b=>.bi (k,[]) a.tree b.tree
def Sen.deep:Sen→Nat
 | .con _=>1
 | .atm _=>1
 | .una _ s=>s.deep+1
 | .bra s=>s.deep+7
 | .bin _ a b=>a.deep+b.deep+7
theorem Sen.deep_pos (s:Sen):1≤s.deep:=by cases s<;>simp only [Sen.deep]<;>omega
theorem lvK_le {k:Int}:1≤lvK k∧lvK k≤4:=by unfold lvK;(repeat' split)<;>omega
theorem Sen.lv_le (s:Sen):1≤s.lv∧s.lv≤5:=by
 cases s with
 | bin k a b=>have:=lvK_le (k:=k);simp only [Sen.lv];omega
 | _=>simp only [Sen.lv];omega
def stopT (n:Nat) (t:TokS):Prop:=∀ m,n≤m→m≤4→infK t m=0
theorem stopT.more {n n':Nat} {t:TokS} (h:stopT n t) (hn:n≤n'):stopT n' t:=fun m h1 h2=>h m (by omega) h2
theorem fx_down {l:List Tok} {c a b:Nat} {e:List Prt} (hb:b<l.length):∀ (k n:Nat),1≤n→n+k≤5→stopT n (tkAt l b)→Fx l (n+k) c a b e→Fx l n (c+k) a b e
 | 0,n,_,_,_,h=>h
 | k+1,n,h1,h5,hs,h=>by
   have h':Fx l (n+1+k) c a b e:=by rw [show n+1+k=n+(k+1) by omega];exact h
   have:=fx_down hb k (n+1) (by omega) (by omega) (hs.more (by omega)) h'
   have:=fx_up h1 (by omega) this hb (hs n (Nat.le_refl _) (by omega))
   rw [show c+k+1=c+(k+1) by omega] at this
   exact this
theorem inf_bin {k:Int} (hk:binK k):infK (binT k) (lvK k)=k∧stopT (lvK k+1) (binT k):=by
 rcases hk with rfl | rfl | rfl | rfl | rfl
 all_goals
  refine ⟨rfl,fun m h1 h2=>?_⟩
  have h1':(_:Nat)≤m:=h1
  have hm:m=1∨m=2∨m=3∨m=4∨m=0:=by omega
  rcases hm with rfl | rfl | rfl | rfl | rfl
  all_goals first | rfl | (exact absurd h1 (by decide))
theorem stop_close:stopT 1 (4,[41],0):=fun m h1 h2=>by
 have hm:m=1∨m=2∨m=3∨m=4:=by omega
 rcases hm with rfl | rfl | rfl | rfl<;>rfl
theorem stop_end {t:TokS} (h:t.1=5):stopT 1 t:=fun m h1 h2=>by
 unfold infK
 have e4:decide (t.1=4)=false:=by rw [h];rfl
 have e3:decide (t.1=3)=false:=by rw [h];rfl
 simp only [e4,e3,Bool.false_and,Bool.false_eq_true,if_false,ite_self]
theorem Sen.size_toks:∀ (s:Sen),s.ok→s.tree.flat.length≤s.toks.length
 | .con b,_=>by simp [Sen.tree,Sen.toks,Fm.flat]
 | .atm i,_=>by simp [Sen.tree,Sen.toks,Fm.flat]
 | .una k s,h=>by have:=s.size_toks h.2.2;simp [Sen.tree,Sen.toks,Fm.flat];omega
 | .bra s,h=>by have:=s.size_toks h;simp only [Sen.tree,Sen.toks,List.length_cons,List.length_append];omega
 | .bin k a b,h=>by
   have:=a.size_toks h.2.2.2.2.1
   have:=b.size_toks h.2.2.2.2.2
   simp [Sen.tree,Sen.toks,Fm.flat];omega
theorem Sen.read {l:List Tok} (hll:l.length≤1000):∀ (s:Sen),s.ok→∀ a,Pre s.toks l a→a+s.toks.length<l.length→
  (s.lv=5→Fu l s.deep a (a+s.toks.length) s.tree.flat)∧(∀ n,1≤n→n≤s.lv→stopT n (tkAt l (a+s.toks.length))→Fx l n (s.deep+6) a (a+s.toks.length) s.tree.flat):=by
 have up:∀ {c a b n:Nat} {e:List Prt},Fu l c a b e→b<l.length→1≤n→n≤5→stopT n (tkAt l b)→Fx l n (c+6) a b e:=fun {c a b n e} hu hb h1 h5 hs=>by
  have:=fx_down hb (5-n) n h1 (by omega) hs (by rw [show n+(5-n)=5 by omega];exact fx_five hu)
  exact this.more (by omega)
 intro s
 induction s with
 | con b=>
   intro h a hp hl
   have hu:=fu_con (by omega) b hp.1.1 hp.1.2
   exact ⟨fun _=>hu,fun n h1 h5 hs=>up hu hl h1 (by simpa [Sen.lv] using h5) hs⟩
 | atm i=>
   intro h a hp hl
   obtain ⟨k,e1,e2,e3,e4⟩:=atm_take (by omega) h hp.2
   have e5:a+(Sen.atm i).toks.length=k+1:=by simp only [Sen.toks,List.length_cons];omega
   have hu:=fu_atm (by omega) hp.1.1 hp.1.2 e4 e2 e3
   rw [e5] at hl ⊢
   exact ⟨fun _=>hu,fun n h1 h5 hs=>up hu hl h1 (by simpa [Sen.lv] using h5) hs⟩
 | una k s ih=>
   intro h a hp hl
   obtain ⟨hk,h5,hs⟩:=h
   have e5:a+(Sen.una k s).toks.length=a+1+s.toks.length:=by simp only [Sen.toks,List.length_cons];omega
   rw [e5] at hl ⊢
   have ht:=s.size_toks hs
   have hu:=fu_una (by omega) hk hp.1.1 hp.1.2 ((ih hs (a+1) hp.2 hl).1 h5) (by omega)
   exact ⟨fun _=>hu,fun n h1 h5 hs=>up hu hl h1 (by simpa [Sen.lv] using h5) hs⟩
 | bra s ih=>
   intro h a hp hl
   have hp2:=(Pre.app s.toks [(4,[41],0)] l (a+1)).1 hp.2
   have e5:a+(Sen.bra s).toks.length=a+1+s.toks.length+1:=by simp only [Sen.toks,List.length_cons,List.length_append,List.length_nil];omega
   rw [e5] at hl ⊢
   have hx:=(ih h (a+1) hp2.1 (by omega)).2 1 (Nat.le_refl _) s.lv_le.1 (by rw [hp2.2.1.2];exact stop_close)
   have hu:=fu_bra (by omega) hp.1.1 hp.1.2 hx hp2.2.1.1 hp2.2.1.2
   exact ⟨fun _=>hu,fun n h1 h5 hs=>up hu hl h1 (by simpa [Sen.lv] using h5) hs⟩
 | bin k x y ihx ihy=>
   intro h a hp hl
   obtain ⟨hk,hx1,hy1,hy2,hxo,hyo⟩:=h
   have hp1:=(Pre.app x.toks (binT k::y.toks) l a).1 hp
   have e5:a+(Sen.bin k x y).toks.length=a+x.toks.length+1+y.toks.length:=by simp only [Sen.toks,List.length_cons,List.length_append];omega
   rw [e5] at hl ⊢
   have hlk:=lvK_le (k:=k)
   have hb:=inf_bin hk
   refine ⟨fun h=>absurd h (by simp only [Sen.lv];omega),fun n h1 h5 hs=>?_⟩
   have h5:n≤lvK k:=h5
   have hX:=(ihx hxo a hp1.1 (by omega)).2 (lvK k+1) (by omega) (by omega) (by rw [hp1.2.1.2];exact hb.2)
   have hst:stopT (lvK k) (tkAt l (a+x.toks.length+1+y.toks.length)):=hs.more h5
   have tx:=x.size_toks hxo
   have ty_:=y.size_toks hyo
   have hY:∃ q,q=(if lvK k=1∨lvK k=4 then lvK k else lvK k+1)∧Fx l q (y.deep+6) (a+x.toks.length+1) (a+x.toks.length+1+y.toks.length) y.tree.flat:=by
    refine ⟨_,rfl,?_⟩
    split
    ·exact (ihy hyo (a+x.toks.length+1) hp1.2.2 (by omega)).2 (lvK k) (by omega) hy1 hst
    ·rename_i hne
     have:lvK k≠y.lv:=fun e=>hne (hy2 e)
     exact (ihy hyo (a+x.toks.length+1) hp1.2.2 (by omega)).2 (lvK k+1) (by omega) (by omega) (hst.more (by omega))
   obtain ⟨q,hq,hY⟩:=hY
   have hk0:k≠0:=by rcases hk with rfl | rfl | rfl | rfl | rfl<;>decide
   have px:=x.deep_pos
   have py:=y.deep_pos
   have hB:=fx_bin (by omega) hlk.2 (hX.more (show x.deep+6≤x.deep+y.deep+6 by omega)) (by omega) hp1.2.1.1 (by rw [hp1.2.1.2];exact hb.1) hk0 hq hY (by omega) hl (hst _ (Nat.le_refl _) hlk.2) (by omega) (by omega)
   have hD:=fx_down hl (lvK k-n) n h1 (by omega) hs (by rw [show n+(lvK k-n)=lvK k by omega];exact hB)
   exact hD.more (by simp only [Sen.deep];omega)
theorem Sen.parse (s:Sen) (h:s.ok) (ht:s.toks.length≤990) (hd:s.deep≤100000) (hl:s.text.length≤60000):∃ (e x:Int) (f:List Prt),M45 s.text=some (e,x,f)∧((e=0∧f=s.tree.flat∧s.tree.flat.length≤24)∨(e≠0∧f=[]∧24<s.tree.flat.length)):=by
 obtain ⟨tks,x,hx,hm⟩:=s.lexS h hl
 have hp:Pre s.toks (tks++[(5,[],0,x)]) 0:=by
  have:=Pre.of tks [] [(5,[],0,x)]
  rw [hm] at this
  exact this
 have hlen:s.toks.length=tks.length:=by rw [←hm,List.length_map]
 have hlen2:(tks++[((5,[],0,x):Tok)]).length=s.toks.length+1:=by simp [hlen]
 have hend:tk0 (tks++[((5,[],0,x):Tok)]) (0+s.toks.length)=(5,[],0,x):=by
  rw [Nat.zero_add,hlen]
  unfold tk0
  rw [qbh]
 have hr:=(s.read (l:=tks++[(5,[],0,x)]) (by omega) h 0 hp (by omega)).2 1 (Nat.le_refl _) s.lv_le.1 (stop_end (by show (tk0 _ _).1=5;rw [hend]))
 show ∃ (e x:Int) (f:List Prt),T45 Ops.std M82 M83 M84 s.text some=_∧_
 unfold T45
 rw [lex_ref,hx,ob_s]
 simp only [qak,qac,qag,qas,qaa,mt]
 generalize hL:tks++[((5,[],0,x):Tok)]=L at *
 rw [if_neg (by simp)]
 have f1':M83 1 L 0 0 0 []=some (L,((0+s.toks.length:Nat):Int),0,0,s.tree.flat):=hr 1000000 0 [] (by omega) (by simp;omega)
 rw [f1',ob_s]
 dsimp only
 rw [if_pos rfl,if_pos (by omega)]
 have h5:(L.getD (Int.toNat ((0+s.toks.length:Nat):Int)) (Ty.dflt ty130)).1=5:=by
  show (tk0 L (0+s.toks.length)).1=5
  rw [hend]
 rw [if_neg (fun h=>h h5),if_neg (by simp)]
 by_cases h24:(24:Int)<(s.tree.flat.length:Nat)
 ·rw [if_pos h24];exact ⟨_,_,_,rfl,.inr ⟨by decide,rfl,by omega⟩⟩
 ·rw [if_neg h24];exact ⟨_,_,_,rfl,.inl ⟨rfl,rfl,by omega⟩⟩
def gT:Nat→Nat
 | 0=>20
 | h+1=>2*gT h+10
def gD:Nat→Nat
 | 0=>14
 | h+1=>2*gD h+14
def SOk (l:List Int) (o:Option (List UInt8×List Int×Int)) (a b c t d:Nat):Prop:=∃ (s:Sen) (a':Nat),o=some (s.text,l,(a':Int))∧s.text.length≤b∧a≤a'∧a'≤a+c∧s.ok∧s.lv=5∧s.toks.length≤t∧s.deep≤d
theorem sen_k (l:List Int) (deep:Int) (d:Nat) (dp0:Int) (l0:List Int) (a0:Int) (B A T D:Nat) (hB:B≤300) (hA:A≤45) (k:Nat) (hk:k<22) (V:Nat) (hV:V≤900) (hrec:k<18→∀ a:Nat,a≤V→SOk l (Rec50 d (IntKind.wrap IntKind.i64 (deep+1)) l a) a B A T D) (a:Nat) (ha:a+60≤V) (n:Nat) :
  SOk l (R50 M94 (Rec50 d) deep l0 a0 (n+1) (.l1004 k l a)) a (2*B+20) (2*A+2) (2*T+10) (2*D+14):=by
 show SOk l (T50 Ops.std M94 (Rec50 d) deep l0 a0 _ some _) a _ _ _ _
 unfold T50
 simp only [qac,qak,qag,qam,qaa,mt]
 by_cases h3:(k:Int)<3
 ·obtain ⟨s,a1,e1,e2,e3,e4,o1,o2,o3,o4⟩:=hrec (by omega) a (by omega)
  rw [if_pos h3,e1,ob_s]
  dsimp only
  simp only [List.length_append,List.length_cons,List.length_nil]
  rw [if_pos (by omega),if_pos (by omega)]
  refine ⟨.una 12 (.bra s),a1,by simp [Sen.text,unaW,binW],?_,by omega,by omega,⟨.inr (.inr (.inr rfl)),rfl,o1⟩,rfl,?_,?_⟩<;>simp [Sen.text,Sen.toks,Sen.deep,unaW,binW]<;>omega
 ·rw [if_neg h3]
  by_cases h6:(k:Int)<6
  ·obtain ⟨s,a1,e1,e2,e3,e4,o1,o2,o3,o4⟩:=hrec (by omega) a (by omega)
   rw [if_pos h6,e1,ob_s]
   dsimp only
   simp only [List.length_append,List.length_cons,List.length_nil]
   rw [if_pos (by omega),if_pos (by omega)]
   refine ⟨.una 11 (.bra s),a1,by simp [Sen.text,unaW,binW],?_,by omega,by omega,⟨.inr (.inr (.inl rfl)),rfl,o1⟩,rfl,?_,?_⟩<;>simp [Sen.text,Sen.toks,Sen.deep,unaW,binW]<;>omega
  ·rw [if_neg h6]
   by_cases h8:(k:Int)<8
   ·obtain ⟨s,a1,e1,e2,e3,e4,o1,o2,o3,o4⟩:=hrec (by omega) a (by omega)
    rw [if_pos h8,e1,ob_s]
    dsimp only
    rw [if_pos (by omega)]
    refine ⟨.una 8 s,a1,by simp [Sen.text,unaW,binW],?_,by omega,by omega,⟨.inr (.inl rfl),o2,o1⟩,rfl,?_,?_⟩<;>simp [Sen.text,Sen.toks,Sen.deep,unaW,binW]<;>omega
   ·rw [if_neg h8]
    by_cases h11:(k:Int)<11
    ·obtain ⟨s,a1,e1,e2,e3,e4,o1,o2,o3,o4⟩:=hrec (by omega) a (by omega)
     rw [if_pos h11,e1,ob_s]
     dsimp only
     obtain ⟨j,a2,g1,g2,g3,g4⟩:=qcp l 0 a1 (by omega) 2 (by omega) (by omega)
     have g4':M94 2 l (a1:Int)=some ((j:Int),l,(a2:Int)):=g4
     rw [if_pos (by omega),g4',ob_s]
     dsimp only
     rw [if_pos (by omega)]
     obtain ⟨s2,a3,f1,f2,f3,f4,u1,u2,u3,u4⟩:=hrec (by omega) a2 (by omega)
     have hlen:=qar (n:=3) (l:=[([32,85,32]:List UInt8),([32,82,32]:List UInt8)]) rfl (Int.toNat (j:Int))
     generalize hxd':([([32,85,32]:List UInt8),([32,82,32]:List UInt8)]:List (List UInt8)).getD (Int.toNat (j:Int)) []=x at hlen ⊢
     simp only [List.length_append,List.length_cons,List.length_nil]
     rw [if_pos (by omega),f1,ob_s]
     dsimp only
     rw [if_pos (by omega),if_pos (by omega)]
     have hj:j=0∨j=1:=by omega
     rcases hj with rfl | rfl
     ·have hx:x=[32,85,32]:=hxd'.symm
      refine ⟨.bra (.bin 9 s s2),a3,by simp [Sen.text,unaW,binW,hx],?_,by omega,by omega,⟨.inr (.inr (.inr (.inl rfl))),by rw [o2];decide,by rw [u2];decide,by rw [u2];decide,o1,u1⟩,rfl,?_,?_⟩<;>simp [Sen.text,Sen.toks,Sen.deep,unaW,binW]<;>omega
     ·have hx:x=[32,82,32]:=hxd'.symm
      refine ⟨.bra (.bin 10 s s2),a3,by simp [Sen.text,unaW,binW,hx],?_,by omega,by omega,⟨.inr (.inr (.inr (.inr rfl))),by rw [o2];decide,by rw [u2];decide,by rw [u2];decide,o1,u1⟩,rfl,?_,?_⟩<;>simp [Sen.text,Sen.toks,Sen.deep,unaW,binW]<;>omega
    ·rw [if_neg h11]
     by_cases h15:(k:Int)<15
     ·obtain ⟨s,a1,e1,e2,e3,e4,o1,o2,o3,o4⟩:=hrec (by omega) a (by omega)
      rw [if_pos h15,e1,ob_s]
      dsimp only
      obtain ⟨j,a2,g1,g2,g3,g4⟩:=qcp l 0 a1 (by omega) 3 (by omega) (by omega)
      have g4':M94 3 l (a1:Int)=some ((j:Int),l,(a2:Int)):=g4
      rw [if_pos (by omega),g4',ob_s]
      dsimp only
      rw [if_pos (by omega)]
      obtain ⟨s2,a3,f1,f2,f3,f4,u1,u2,u3,u4⟩:=hrec (by omega) a2 (by omega)
      have hlen:=qar (n:=4) (l:=[([32,38,38,32]:List UInt8),([32,124,124,32]:List UInt8),([32,45,62,32]:List UInt8)]) rfl (Int.toNat (j:Int))
      generalize hxd':([([32,38,38,32]:List UInt8),([32,124,124,32]:List UInt8),([32,45,62,32]:List UInt8)]:List (List UInt8)).getD (Int.toNat (j:Int)) []=x at hlen ⊢
      simp only [List.length_append,List.length_cons,List.length_nil]
      rw [if_pos (by omega),f1,ob_s]
      dsimp only
      rw [if_pos (by omega),if_pos (by omega)]
      have hj:j=0∨j=1∨j=2:=by omega
      rcases hj with rfl | rfl | rfl
      ·have hx:x=[32,38,38,32]:=hxd'.symm
       refine ⟨.bra (.bin 5 s s2),a3,by simp [Sen.text,unaW,binW,hx],?_,by omega,by omega,⟨.inl rfl,by rw [o2];decide,by rw [u2];decide,by rw [u2];decide,o1,u1⟩,rfl,?_,?_⟩<;>simp [Sen.text,Sen.toks,Sen.deep,unaW,binW]<;>omega
      ·have hx:x=[32,124,124,32]:=hxd'.symm
       refine ⟨.bra (.bin 6 s s2),a3,by simp [Sen.text,unaW,binW,hx],?_,by omega,by omega,⟨.inr (.inl rfl),by rw [o2];decide,by rw [u2];decide,by rw [u2];decide,o1,u1⟩,rfl,?_,?_⟩<;>simp [Sen.text,Sen.toks,Sen.deep,unaW,binW]<;>omega
      ·have hx:x=[32,45,62,32]:=hxd'.symm
       refine ⟨.bra (.bin 7 s s2),a3,by simp [Sen.text,unaW,binW,hx],?_,by omega,by omega,⟨.inr (.inr (.inl rfl)),by rw [o2];decide,by rw [u2];decide,by rw [u2];decide,o1,u1⟩,rfl,?_,?_⟩<;>simp [Sen.text,Sen.toks,Sen.deep,unaW,binW]<;>omega
     ·rw [if_neg h15]
      by_cases h17:(k:Int)<17
      ·obtain ⟨s,a1,e1,e2,e3,e4,o1,o2,o3,o4⟩:=hrec (by omega) a (by omega)
       rw [if_pos h17,e1,ob_s]
       dsimp only
       rw [if_pos (by omega)]
       refine ⟨.una 4 s,a1,by simp [Sen.text,unaW,binW],?_,by omega,by omega,⟨.inl rfl,o2,o1⟩,rfl,?_,?_⟩<;>simp [Sen.text,Sen.toks,Sen.deep,unaW,binW]<;>omega
      ·rw [if_neg h17]
       by_cases h17':(k:Int)=17
       ·obtain ⟨s,a1,e1,e2,e3,e4,o1,o2,o3,o4⟩:=hrec (by omega) a (by omega)
        rw [if_pos h17',e1,ob_s]
        dsimp only
        rw [if_pos (by omega)]
        refine ⟨.una 12 (.una 11 s),a1,by simp [Sen.text,unaW,binW],?_,by omega,by omega,⟨.inr (.inr (.inr rfl)),rfl,.inr (.inr (.inl rfl)),o2,o1⟩,rfl,?_,?_⟩<;>simp [Sen.text,Sen.toks,Sen.deep,unaW,binW]<;>omega
       ·rw [if_neg h17']
        by_cases h18:(k:Int)=18
        ·rw [if_pos h18]
         obtain ⟨j,a2,g1,g2,g3,g4⟩:=qcp l 0 a (by omega) 2 (by omega) (by omega)
         have g4':M94 2 l (a:Int)=some ((j:Int),l,(a2:Int)):=g4
         rw [g4',ob_s]
         dsimp only
         rw [if_pos (by omega)]
         have hlen:=qar (n:=5) (l:=[([116,114,117,101]:List UInt8),([102,97,108,115,101]:List UInt8)]) rfl (Int.toNat (j:Int))
         have hj:j=0∨j=1:=by omega
         rcases hj with rfl | rfl
         ·exact ⟨.con true,a2,rfl,by simp [Sen.text,conW],by omega,by omega,trivial,rfl,by simp [Sen.toks],by simp [Sen.deep]⟩
         ·exact ⟨.con false,a2,rfl,by simp [Sen.text,conW],by omega,by omega,trivial,rfl,by simp [Sen.toks],by simp [Sen.deep]⟩
        ·rw [if_neg h18]
         obtain ⟨j,a2,g1,g2,g3,g4⟩:=qcp l 0 a (by omega) 6 (by omega) (by omega)
         have g4':M94 6 l (a:Int)=some ((j:Int),l,(a2:Int)):=g4
         rw [g4',ob_s]
         dsimp only
         rw [if_pos (by omega)]
         have hlen:=qar (n:=10) (l:=[([91,120,61,61,49,93]:List UInt8),([91,112,64,97,93]:List UInt8),([91,121,60,49,93]:List UInt8),([91,113,64,98,38,38,120,62,48,93]:List UInt8),([91,120,61,61,121,93]:List UInt8),([91,112,64,98,93]:List UInt8)]) rfl (Int.toNat (j:Int))
         have hj:j=0∨j=1∨j=2∨j=3∨j=4∨j=5:=by omega
         rcases hj with rfl | rfl | rfl | rfl | rfl | rfl
         ·exact ⟨.atm 0,a2,rfl,by simp [Sen.text,atmsW],by omega,by omega,(by decide:0<6),rfl,by simp [Sen.toks,atmsT],by simp [Sen.deep]⟩
         ·exact ⟨.atm 1,a2,rfl,by simp [Sen.text,atmsW],by omega,by omega,(by decide:1<6),rfl,by simp [Sen.toks,atmsT],by simp [Sen.deep]⟩
         ·exact ⟨.atm 2,a2,rfl,by simp [Sen.text,atmsW],by omega,by omega,(by decide:2<6),rfl,by simp [Sen.toks,atmsT],by simp [Sen.deep]⟩
         ·exact ⟨.atm 3,a2,rfl,by simp [Sen.text,atmsW],by omega,by omega,(by decide:3<6),rfl,by simp [Sen.toks,atmsT],by simp [Sen.deep]⟩
         ·exact ⟨.atm 4,a2,rfl,by simp [Sen.text,atmsW],by omega,by omega,(by decide:4<6),rfl,by simp [Sen.toks,atmsT],by simp [Sen.deep]⟩
         ·exact ⟨.atm 5,a2,rfl,by simp [Sen.text,atmsW],by omega,by omega,(by decide:5<6),rfl,by simp [Sen.toks,atmsT],by simp [Sen.deep]⟩
theorem sen_h (l:List Int):∀ (h:Nat),h≤3→∀ (d:Nat),h<d→∀ (a:Nat),a≤400-100*h→SOk l (Rec50 d ((3-h:Nat):Int) l a) a (fB h) (fA h) (gT h) (gD h):=by
 intro h
 induction h with
 | zero=>
   intro hh d hd a ha
   obtain ⟨e,rfl⟩:∃ e,d=e+1:=⟨d-1,by omega⟩
   show SOk l (T50 Ops.std M94 (Rec50 e) ((3-0:Nat):Int) l a (R50 M94 (Rec50 e) ((3-0:Nat):Int) l a 1000000) some none) a _ _ _ _
   unfold T50
   obtain ⟨k,a1,e1,e2,e3,e4⟩:=qcp l 0 a (by omega) 22 (by omega) (by omega)
   have e4':M94 22 l (a:Int)=some ((k:Int),l,(a1:Int)):=e4
   rw [e4',ob_s]
   simp only [qac,qak,qaa]
   rw [if_pos (by omega),if_neg (by omega)]
   have ht:Int.tmod (k:Int) 4=((k % 4:Nat):Int):=by rw [show (4:Int)=((4:Nat):Int) from rfl,←Int.ofNat_tmod]
   rw [ht,show IntKind.wrap IntKind.i64 (18+((k % 4:Nat):Int))=((18+k % 4:Nat):Int) by rw [wrap64 (by omega) (by omega)];omega]
   have:=sen_k l ((3-0:Nat):Int) e ((3-0:Nat):Int) l (a:Int) 0 0 0 0 (by omega) (by omega) (18+k % 4) (by omega) 900 (by omega) (fun h=>by omega) a1 (by omega) 999999
   obtain ⟨s,a',g1,g2,g3,g4,g5,g6,g7,g8⟩:=this
   exact ⟨s,a',g1,by simp [fB];omega,by omega,by simp [fA];omega,g5,g6,by simp [gT];omega,by simp [gD];omega⟩
 | succ h ih=>
   intro hh d hd a ha
   obtain ⟨e,rfl⟩:∃ e,d=e+1:=⟨d-1,by omega⟩
   have hb:=fB_le h (by omega)
   show SOk l (T50 Ops.std M94 (Rec50 e) ((3-(h+1):Nat):Int) l a (R50 M94 (Rec50 e) ((3-(h+1):Nat):Int) l a 1000000) some none) a _ _ _ _
   unfold T50
   obtain ⟨k,a1,e1,e2,e3,e4⟩:=qcp l 0 a (by omega) 22 (by omega) (by omega)
   have e4':M94 22 l (a:Int)=some ((k:Int),l,(a1:Int)):=e4
   rw [e4',ob_s]
   simp only [qac,qak,qaa]
   rw [if_neg (by omega)]
   have hdeep:IntKind.wrap IntKind.i64 (((3-(h+1):Nat):Int)+1)=((3-h:Nat):Int):=by rw [wrap64 (by omega) (by omega)];omega
   have hrec:∀ a:Nat,a≤400-100*h→SOk l (Rec50 e (IntKind.wrap IntKind.i64 (((3-(h+1):Nat):Int)+1)) l a) a (fB h) (fA h) (gT h) (gD h):=fun a ha=>by
    rw [hdeep];exact ih (by omega) e (by omega) a ha
   have step:=fun (k:Nat) (hk:k<22)=>sen_k l ((3-(h+1):Nat):Int) e ((3-(h+1):Nat):Int) l (a:Int) (fB h) (fA h) (gT h) (gD h) (by omega) (by omega) k hk (400-100*h) (by omega) (fun _=>hrec) a1 (by omega) 999999
   have fin:∀ o,SOk l o a1 (2*fB h+20) (2*fA h+2) (2*gT h+10) (2*gD h+14)→SOk l o a (fB (h+1)) (fA (h+1)) (gT (h+1)) (gD (h+1)):=fun o ho=>by
    obtain ⟨s,a',g1,g2,g3,g4,g5,g6,g7,g8⟩:=ho
    exact ⟨s,a',g1,by simp only [fB];omega,by omega,by simp only [fA];omega,g5,g6,by simp only [gT];omega,by simp only [gD];omega⟩
   have ht:Int.tmod (k:Int) 4=((k % 4:Nat):Int):=by rw [show (4:Int)=((4:Nat):Int) from rfl,←Int.ofNat_tmod]
   split
   ·rw [if_neg (by omega),ht,show IntKind.wrap IntKind.i64 (18+((k % 4:Nat):Int))=((18+k % 4:Nat):Int) by rw [wrap64 (by omega) (by omega)];omega]
    exact fin _ (step (18+k % 4) (by omega))
   ·exact fin _ (step k e1)
theorem qe4 (l:List Int):∃ s:Sen,M15 l=some s.text∧s.ok∧s.lv=5∧s.text.length≤300∧s.toks.length≤240∧s.deep≤300:=by
 obtain ⟨s,a',e1,e2,e3,e4,e5,e6,e7,e8⟩:=sen_h l 3 (by omega) 1000000 (by omega) 0 (by omega)
 refine ⟨s,?_,e5,e6,Nat.le_trans e2 (by decide),Nat.le_trans e7 (by decide),Nat.le_trans e8 (by decide)⟩
 show T15 Ops.std M50 l some=_
 unfold T15
 have e1':M50 0 l 0=some (s.text,l,(a':Int)):=e1
 rw [e1',ob_s]
theorem Sen.wf:∀ s:Sen,s.ok→WF s.tree
 | .con b,_=>by cases b<;>exact ⟨rfl,(fun h=>absurd h (by decide)),fun _=>rfl⟩
 | .atm i,h=>by
   have h:i<6:=h
   match i,h with
   | 0,_ | 1,_ | 2,_ | 3,_ | 4,_ | 5,_=>exact ⟨rfl,fun _=>by decide,fun h=>absurd rfl h⟩
 | .una k s,h=>⟨by rcases h.1 with rfl | rfl | rfl | rfl<;>rfl,rfl,s.wf h.2.2⟩
 | .bra s,h=>s.wf h
 | .bin k a b,h=>⟨by rcases h.1 with rfl | rfl | rfl | rfl | rfl<;>rfl,rfl,a.wf h.2.2.2.2.1,b.wf h.2.2.2.2.2⟩
def wlP (a b:Sen):Nat→Sen×Sen
 | 0=>(.una 4 (.bra (.bin 9 a b)),.bin 10 (.una 4 a) (.una 4 b))
 | 1=>(.bin 9 a b,.bin 6 b (.bin 5 a (.una 8 (.bra (.bin 9 a b)))))
 | 2=>(.bin 10 a b,.bin 5 b (.bra (.bin 6 a (.una 8 (.bra (.bin 10 a b))))))
 | 3=>(.una 11 a,.una 4 (.una 12 (.una 4 a)))
 | 4=>(.una 12 a,.bin 5 a (.una 8 (.una 12 a)))
 | 5=>(.una 8 (.bra (.bin 5 a b)),.bin 5 (.una 8 a) (.una 8 b))
 | 6=>(.una 11 (.bra (.bin 6 a b)),.bin 6 (.una 11 a) (.una 11 b))
 | _=>(.bin 7 a b,.bin 6 (.una 4 a) b)
theorem wl_ok {a b:Sen} (ha:a.ok) (hb:b.ok) (la:a.lv=5) (lb:b.lv=5):∀ i,(wlP a b i).1.ok∧(wlP a b i).2.ok:=by
 have u4:unaK 4:=.inl rfl
 have u8:unaK 8:=.inr (.inl rfl)
 have u11:unaK 11:=.inr (.inr (.inl rfl))
 have u12:unaK 12:=.inr (.inr (.inr rfl))
 have b5:binK 5:=.inl rfl
 have b6:binK 6:=.inr (.inl rfl)
 have b7:binK 7:=.inr (.inr (.inl rfl))
 have b9:binK 9:=.inr (.inr (.inr (.inl rfl)))
 have b10:binK 10:=.inr (.inr (.inr (.inr rfl)))
 have l5:lvK 5=3:=rfl
 have l6:lvK 6=2:=rfl
 have l7:lvK 7=1:=rfl
 have l9:lvK 9=4:=rfl
 have l10:lvK 10=4:=rfl
 have v1:∀ k x y,(Sen.bin k x y).lv=lvK k:=fun _ _ _=>rfl
 have v2:∀ k x,(Sen.una k x).lv=5:=fun _ _=>rfl
 have v3:∀ x,(Sen.bra x).lv=5:=fun _=>rfl
 intro i
 match i with
 | 0 | 1 | 2 | 3 | 4 | 5 | 6 | n+7=>
   simp [wlP,Sen.ok,v1,v2,v3,ha,hb,la,lb,u4,u8,u11,u12,b5,b6,b7,b9,b10,l5,l6,l7,l9,l10]
theorem wl_len (a b:Sen) (ha:a.toks.length≤242) (hb:b.toks.length≤242) (da:a.deep≤1000) (db:b.deep≤1000) (ta:a.text.length≤310) (tb:b.text.length≤310):∀ i,((wlP a b i).1.toks.length≤990∧(wlP a b i).1.deep≤100000∧(wlP a b i).1.text.length≤60000)∧((wlP a b i).2.toks.length≤990∧(wlP a b i).2.deep≤100000∧(wlP a b i).2.text.length≤60000):=by
 intro i
 match i with
 | 0 | 1 | 2 | 3 | 4 | 5 | 6 | n+7=>
   simp only [wlP,Sen.toks,Sen.deep,Sen.text,unaW,binW,List.length_cons,List.length_append,List.length_nil]
   refine ⟨⟨?_,?_,?_⟩,?_,?_,?_⟩<;>(try simp)<;>omega
section
variable {n back:Nat} (V:List Trm→Nat→Bool)
theorem lf_mono2 {g g':Nat→Bool→Bool} (hb:back<n) (hg:mono g) (hg':mono g') (h:∀ i x,g i x=true→g' i x=true):leB n (lf n back g) (lf n back g'):=
 qd9 hg hb _ fun i hi e=>by rw [qew hg' hb i hi];exact h i _ e
theorem lf_or (hb:back<n) (a b:Nat→Bool) (i:Nat) (hi:i<n):lf n back (ruF fun i=>a i || b i) i=(lf n back (ruF a) i || lf n back (ruF b) i):=by
 have h1:leB n (lf n back (ruF a)) (lf n back (ruF fun i=>a i || b i)):=lf_mono2 hb (qb0 _) (qb0 _) fun i x e=>by
  unfold ruF at *;simp only [Bool.or_eq_true] at *;rcases e with e | e<;>simp [e]
 have h2:leB n (lf n back (ruF b)) (lf n back (ruF fun i=>a i || b i)):=lf_mono2 hb (qb0 _) (qb0 _) fun i x e=>by
  unfold ruF at *;simp only [Bool.or_eq_true] at *;rcases e with e | e<;>simp [e]
 have h3:=qd9 (qb0 fun i=>a i || b i) hb (fun i=>lf n back (ruF a) i || lf n back (ruF b) i) fun i hi e=>by
  rw [qew (qb0 a) hb i hi,qew (qb0 b) hb i hi]
  unfold ruF at *
  simp only [Bool.or_eq_true] at *
  rcases e with (e | e) | e | e<;>simp [e]
 rw [Bool.eq_iff_iff,Bool.or_eq_true]
 exact ⟨fun e=>by have:=h3 i hi e;simpa using this,fun e=>e.elim (h1 i hi) (h2 i hi)⟩
theorem wl_sem (hb:back<n) (a b:Sen) (i:Nat) (p:Nat) (hp:p<n):semT n back V (wlP a b i).1.tree p=semT n back V (wlP a b i).2.tree p:=by
 match i with
 | 0=>
   show (fun i=>!lf n back (ruU (semT n back V a.tree) (semT n back V b.tree)) i) p=gf n back (ruR (fun i=>!semT n back V a.tree i) (fun i=>!semT n back V b.tree i)) p
   rw [lf_not]
 | 1=>
   show lf n back (ruU (semT n back V a.tree) (semT n back V b.tree)) p=(semT n back V b.tree p || (semT n back V a.tree p && lf n back (ruU (semT n back V a.tree) (semT n back V b.tree)) (nx n back p)))
   exact qew (qbx _ _) hb p hp
 | 2=>
   show gf n back (ruR (semT n back V a.tree) (semT n back V b.tree)) p=(semT n back V b.tree p && (semT n back V a.tree p || gf n back (ruR (semT n back V a.tree) (semT n back V b.tree)) (nx n back p)))
   exact gf_fix (qci _ _) hb p hp
 | 3=>
   show lf n back (ruF (semT n back V a.tree)) p=(fun i=>!gf n back (ruG fun i=>!semT n back V a.tree i) i) p
   rw [ruG_R,gf_not,ruF_U]
   simp only [Bool.not_not,Bool.not_false]
 | 4=>
   show gf n back (ruG (semT n back V a.tree)) p=(semT n back V a.tree p && gf n back (ruG (semT n back V a.tree)) (nx n back p))
   exact gf_fix (ruG_mono _) hb p hp
 | 5=>rfl
 | 6=>exact lf_or hb _ _ p hp
 | n+7=>rfl
end
section
variable (vs:List Vrb) (ps:List Pcs) (ts:List Trn)
theorem knA_app (f g:List Prt):knA vs ps ts (f++g)=(knA vs ps ts f && knA vs ps ts g):=by unfold knA;rw [List.all_append]
theorem qc3 (k:Int) (h:k≠3):knA vs ps ts [(k,[])]=true:=by
 unfold knA
 simp [h]
theorem wl_kn (a b:Sen) (i:Nat):knA vs ps ts (wlP a b i).1.tree.flat=knA vs ps ts (wlP a b i).2.tree.flat:=by
 have k4:=qc3 vs ps ts 4 (by decide)
 have k5:=qc3 vs ps ts 5 (by decide)
 have k6:=qc3 vs ps ts 6 (by decide)
 have k7:=qc3 vs ps ts 7 (by decide)
 have k8:=qc3 vs ps ts 8 (by decide)
 have k9:=qc3 vs ps ts 9 (by decide)
 have k10:=qc3 vs ps ts 10 (by decide)
 have k11:=qc3 vs ps ts 11 (by decide)
 have k12:=qc3 vs ps ts 12 (by decide)
 match i with
 | 0 | 1 | 2 | 3 | 4 | 5 | 6 | n+7=>
   simp only [wlP,Sen.tree,Fm.flat,knA_app,k4,k5,k6,k7,k8,k9,k10,k11,k12,Bool.and_true]
   try (cases knA vs ps ts a.tree.flat<;>cases knA vs ps ts b.tree.flat<;>rfl)
end
section
variable (p0 p1:List Int) (p2 p3:Int) (p4:List (List Int)) (p5 p6:List Int)
noncomputable abbrev wlR:=R9 M38 M12 M20 M15 M41 M45 M43 p0 p1 p2 p3 p4 p5 p6
theorem wl_get (a b:Sen) (i:Nat) (hi:i<8):∀ j,j<2→List.getD [(wlP a b 0).1.text,(wlP a b 0).2.text,(wlP a b 1).1.text,(wlP a b 1).2.text,(wlP a b 2).1.text,(wlP a b 2).2.text,(wlP a b 3).1.text,(wlP a b 3).2.text,(wlP a b 4).1.text,(wlP a b 4).2.text,(wlP a b 5).1.text,(wlP a b 5).2.text,(wlP a b 6).1.text,(wlP a b 6).2.text,(wlP a b 7).1.text,(wlP a b 7).2.text] (i*2+j) []=if j=0 then (wlP a b i).1.text else (wlP a b i).2.text:=by
 intro j hj
 match i,hi,j,hj with
 | 0,_,0,_ | 1,_,0,_ | 2,_,0,_ | 3,_,0,_ | 4,_,0,_ | 5,_,0,_ | 6,_,0,_ | 7,_,0,_=>rfl
 | 0,_,1,_ | 1,_,1,_ | 2,_,1,_ | 3,_,1,_ | 4,_,1,_ | 5,_,1,_ | 6,_,1,_ | 7,_,1,_=>rfl
theorem wl_loop {vs:List Vrb} {ps:List Pcs} {ts:List Trn} (hM:smallM vs ps ts) {a b:Sen} (ha:a.ok) (hb:b.ok) (la:a.lv=5) (lb:b.lv=5) (ka:a.toks.length≤242) (kb:b.toks.length≤242) (da:a.deep≤1000) (db:b.deep≤1000) (ta:a.text.length≤310) (tb:b.text.length≤310)
  (st cy:List Stp) (h1:st.length≤6) (h2:1≤cy.length) (h3:cy.length≤6) (hl:lassoB vs ps ts st cy=true) :
  ∀ (k i m:Nat),i+k=8→k<m→wlR p0 p1 p2 p3 p4 p5 p6 m (.l0 (i:Nat) vs ps ts st cy (wlP a b 0).1.text (wlP a b 0).2.text (wlP a b 1).1.text (wlP a b 1).2.text (wlP a b 2).1.text (wlP a b 2).2.text (wlP a b 3).1.text (wlP a b 3).2.text (wlP a b 4).1.text (wlP a b 4).2.text (wlP a b 5).1.text (wlP a b 5).2.text (wlP a b 6).1.text (wlP a b 6).2.text (wlP a b 7).1.text (wlP a b 7).2.text)=some true
 | k,i,0,hi,hm=>by omega
 | 0,i,m+1,hi,hm=>by
   show T9 Ops.std _ _ _ _ _ _ _ p0 p1 p2 p3 p4 p5 p6 _ some _=_
   unfold T9
   simp only [qac,qaa]
   rw [if_neg (by omega)]
 | k+1,i,m+1,hi,hm=>by
   have ih:=wl_loop hM ha hb la lb ka kb da db ta tb st cy h1 h2 h3 hl k (i+1) m (by omega) (by omega)
   show T9 Ops.std _ _ _ _ _ _ _ p0 p1 p2 p3 p4 p5 p6 _ some _=_
   unfold T9
   have g0:=wl_get a b i (by omega) 0 (by omega)
   have g1:=wl_get a b i (by omega) 1 (by omega)
   have z0:Int.toNat 0=0:=rfl
   have z1:Int.toNat 1=1:=rfl
   have hw:IntKind.wrap IntKind.i64 ((i:Int)+1)=((i+1:Nat):Int):=qae (by omega)
   rw [if_pos rfl] at g0
   rw [if_neg (by decide)] at g1
   dsimp only
   simp only [qac,qag,qak,qaa,qas,qab,mt,z0,z1,hw,g0,g1]
   obtain ⟨⟨q1,q2,q3⟩,q4,q5,q6⟩:=wl_len a b ka kb da db ta tb i
   obtain ⟨o1,o2⟩:=wl_ok ha hb la lb i
   obtain ⟨e1,x1,f1,r1,s1⟩:=(wlP a b i).1.parse o1 q1 q2 q3
   obtain ⟨e2,x2,f2,r2,s2⟩:=(wlP a b i).2.parse o2 q4 q5 q6
   rw [if_pos (by omega),if_pos (by omega),if_pos (by omega),if_pos (by omega),r1,ob_s,if_pos (by omega),if_pos (by omega),if_pos (by omega),r2,ob_s]
   dsimp only
   by_cases h1e:e1=0
   ·rw [if_neg (fun h=>h h1e)]
    by_cases h2e:e2=0
    ·rw [if_neg (fun h=>h h2e)]
     rcases s1 with ⟨_,rfl,c1⟩ | ⟨n,_⟩
     ·rcases s2 with ⟨_,rfl,c2⟩ | ⟨n,_⟩
      ·rw [(wlP a b i).1.tree.flat_len] at c1
       rw [(wlP a b i).2.tree.flat_len] at c2
       rw [TrueP_ok hM _ ((wlP a b i).1.wf o1) (by omega) (st,cy) (by simp only;omega) (by simp only;omega),ob_s,TrueP_ok hM _ ((wlP a b i).2.wf o2) (by omega) (st,cy) (by simp only;omega) (by simp only;omega),ob_s,wl_kn vs ps ts a b i,wl_sem (valE vs ps ts (st++cy)) (by simp only;omega) a b i 0 (by simp only;omega)]
       simp only [beq_self_eq_true,Bool.not_true,cond_false,bne_self_eq_false]
       first | exact ih | (rw [Bool.not_beq_self];exact ih)
      ·exact absurd h2e n
     ·exact absurd h1e n
    ·rw [if_pos h2e];exact ih
   ·rw [if_pos h1e];exact ih
end
theorem unaW4:unaW 4=[33]:=rfl
theorem unaW8:unaW 8=[88,32]:=rfl
theorem unaW11:unaW 11=[70,32]:=rfl
theorem unaW12:unaW 12=[71,32]:=rfl
theorem binW5:binW 5=[32,38,38,32]:=rfl
theorem binW6:binW 6=[32,124,124,32]:=rfl
theorem binW7:binW 7=[32,45,62,32]:=rfl
theorem binW9:binW 9=[32,85,32]:=rfl
theorem binW10:binW 10=[32,82,32]:=rfl
theorem plainWordLaws (p0 p1:List Int) (p2 p3:Int) (p4:List (List Int)) (p5 p6:List Int) (w0:Ty.wf ty22 p0) (w1:Ty.wf ty22 p1) (w2:Ty.wf ty3 p2) (w3:Ty.wf ty3 p3) (w4:Ty.wf ty23 p4) (w5:Ty.wf ty22 p5) (w6:Ty.wf ty22 p6):M9 p0 p1 p2 p3 p4 p5 p6=some true:=by
 show T9 Ops.std M38 M12 M20 M15 M41 M45 M43 p0 p1 p2 p3 p4 p5 p6 (wlR p0 p1 p2 p3 p4 p5 p6 1000000) some none=_
 unfold T9
 obtain ⟨sa,hsa,oa,la,ta,ka,da⟩:=qe4 p0
 obtain ⟨sb,hsb,ob_,lb,tb,kb,db⟩:=qe4 p1
 obtain ⟨vs,ps,ts,hm,hro⟩:=Model_ok2 p2 p3 p4
 have hM:=hro.1
 obtain ⟨w,hw,hok⟩:=Word_ok (ts:=ts) hro.good p5 p6
 obtain ⟨l1,l2,l3,l4,l5⟩:=hok
 rw [known16,hsa,hsb,hm]
 simp only [ob_s,hw,Bool.not_true,cond_false]
 have hr:=rightP_ok hM w.1 w.2 (by omega) (by omega)
 cases hl:lassoB vs ps ts w.1 w.2 with
 | false=>
   rw [hl] at hr
   simp only [hr,ob_s,Bool.not_false,cond_true,qam,qaa,List.length_append,List.length_cons,List.length_nil]
   rw [if_pos (by omega),if_pos (by omega),if_pos (by omega),if_pos (by omega)]
 | true=>
   rw [hl] at hr
   simp only [hr,ob_s,Bool.not_true,cond_false,qam,qaa,List.length_append,List.length_cons,List.length_nil]
   have hloop:=wl_loop p0 p1 p2 p3 p4 p5 p6 hM (a:=.bra sa) (b:=.bra sb) oa ob_ rfl rfl (by simp only [Sen.toks,List.length_cons,List.length_append,List.length_nil];omega) (by simp only [Sen.toks,List.length_cons,List.length_append,List.length_nil];omega) (by simp only [Sen.deep];omega) (by simp only [Sen.deep];omega) (by simp only [Sen.text,List.length_cons,List.length_append,List.length_nil];omega) (by simp only [Sen.text,List.length_cons,List.length_append,List.length_nil];omega) w.1 w.2 l1 l2 l3 hl 8 0 1000000 rfl (by omega)
   simp only [wlP,Sen.text,unaW4,unaW8,unaW11,unaW12,binW5,binW6,binW7,binW9,binW10,List.append_assoc,List.cons_append,List.nil_append] at hloop
   repeat rw [if_pos (by omega)]
   simp only [List.append_assoc,List.cons_append,List.nil_append]
   exact hloop
end Go.Proofs.YtccnmhdgghjgoaaGreatDoor.Av
