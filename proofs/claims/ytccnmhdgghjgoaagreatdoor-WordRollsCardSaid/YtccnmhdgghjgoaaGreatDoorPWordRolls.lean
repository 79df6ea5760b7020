/- The plain law of WordRolls: what its twin computes answers true. Conditions: none. -/
import Derived.Test.YtccnmhdgghjgoaaGreatDoorPWordRollsb
set_option maxRecDepth 100000
namespace Go.Proofs.YtccnmhdgghjgoaaGreatDoor.Av
open Go
noncomputable abbrev ccS (p:List (List Stp)):=R75 M124 p
theorem concat_st (a b:List Stp) (ha:a.length≤100) (hb:b.length≤100):M75 [a,b]=some (a++b):=by
 have w1:IntKind.wrap IntKind.i64 (0+(a.length:Int))=(a.length:Int):=by rw [wrap64 (by omega) (by omega)];omega
 have w2:IntKind.wrap IntKind.i64 ((a.length:Int)+(b.length:Int))=((a.length+b.length:Nat):Int):=by rw [wrap64 (by omega) (by omega)];omega
 have hg0:∀ d:List Stp,([a,b]:List (List Stp)).getD (Int.toNat 0) d=a:=fun d=>rfl
 have hg1:∀ d:List Stp,([a,b]:List (List Stp)).getD 1 d=b:=fun d=>rfl
 have s1:ccS [a,b] 999999 (.l0 (a.length:Nat) (2:Nat) (1:Nat))=ccS [a,b] 999998 (.l0 ((a.length+b.length:Nat):Int) (2:Nat) (2:Nat)):=by
  show T75 Ops.std _ [a,b] _ some _=_
  unfold T75
  simp only [qae,qag,qaa,List.length_cons,List.length_nil,qab]
  rw [if_pos (by omega),if_pos (by omega)]
  simp only [hg1]
  rw [w2,if_neg (by omega),show IntKind.wrap IntKind.i64 (((1:Nat):Int)+1)=((2:Nat):Int) from qaf (by omega)]
 have s0:ccS [a,b] 1000000 (.l0 0 (2:Nat) 0)=ccS [a,b] 999999 (.l0 (a.length:Nat) (2:Nat) (1:Nat)):=by
  show T75 Ops.std _ [a,b] _ some _=_
  unfold T75
  simp only [qae,qag,qaa,List.length_cons,List.length_nil]
  rw [if_pos (by omega),if_pos (by omega)]
  simp only [hg0]
  rw [w1,if_neg (by omega),show IntKind.wrap IntKind.i64 (0+1)=((1:Nat):Int) from wrap64 (by omega) (by omega)]
 have s2:ccS [a,b] 999998 (.l0 ((a.length+b.length:Nat):Int) (2:Nat) (2:Nat))=ccS [a,b] 999997 (.l1 (2:Nat) 0 []):=by
  show T75 Ops.std _ [a,b] _ some _=_
  unfold T75
  simp only [qae,qag,qaa,List.length_cons,List.length_nil]
  rw [if_neg (by omega)]
  unfold M124 growF124
  rw [if_pos (by omega),ob_s]
  rfl
 have s3:ccS [a,b] 999997 (.l1 (2:Nat) 0 [])=ccS [a,b] 999996 (.l1 (2:Nat) (1:Nat) a):=by
  show T75 Ops.std _ [a,b] _ some _=_
  unfold T75
  simp only [qae,qag,qam,qaa,List.length_cons,List.length_nil]
  simp only [hg0]
  rw [if_pos (by omega),if_pos (by omega),if_pos (by omega),show IntKind.wrap IntKind.i64 (0+1)=((1:Nat):Int) from wrap64 (by omega) (by omega),List.nil_append]
 have s4:ccS [a,b] 999996 (.l1 (2:Nat) (1:Nat) a)=ccS [a,b] 999995 (.l1 (2:Nat) (2:Nat) (a++b)):=by
  show T75 Ops.std _ [a,b] _ some _=_
  unfold T75
  simp only [qae,qag,qam,qaa,List.length_cons,List.length_nil,qab]
  simp only [hg1]
  rw [if_pos (by omega),if_pos (by omega),if_pos (by omega),show IntKind.wrap IntKind.i64 (((1:Nat):Int)+1)=((2:Nat):Int) from qaf (by omega)]
 have s5:ccS [a,b] 999995 (.l1 (2:Nat) (2:Nat) (a++b))=some (a++b):=by
  show T75 Ops.std _ [a,b] _ some _=_
  unfold T75
  simp only [qae,qaa]
  rw [if_neg (by omega)]
 show T75 Ops.std M124 [a,b] (ccS [a,b] 1000000) some none=_
 unfold T75
 exact s0.trans (s1.trans (s2.trans (s3.trans (s4.trans s5))))
section
variable {vs:List Vrb} {ps:List Pcs} {ts:List Trn}
noncomputable abbrev srP (vs:List Vrb) (ps:List Pcs) (ts:List Trn) (s1 s2:List Int):=R80 M77 vs ps ts s1 s2
theorem srP_l1 (hv:vs.length≤100000) (s1 s2:List Int) (h2:s2.length=vs.length):∀ (t i n:Nat),i+t=vs.length→t<n→srP vs ps ts s1 s2 n (.l1 (vs.length:Nat) i)=ftR vs ps ts s1 s2 n (.l1 i)∧∃ b,ftR vs ps ts s1 s2 n (.l1 i)=some b
 | t,i,0,hi,hn=>by omega
 | 0,i,n+1,hi,hn=>by
   show T80 Ops.std _ vs ps ts s1 s2 _ some _=T139 Ops.std vs ps ts s1 s2 _ some _∧∃ b,T139 Ops.std vs ps ts s1 s2 _ some _=some b
   unfold T80 T139
   simp only [qae,qaa]
   rw [if_neg (by omega),if_neg (by omega)]
   exact ⟨rfl,_,rfl⟩
 | t+1,i,n+1,hi,hn=>by
   have ih:=srP_l1 hv s1 s2 h2 t (i+1) n (by omega) (by omega)
   show T80 Ops.std _ vs ps ts s1 s2 _ some _=T139 Ops.std vs ps ts s1 s2 _ some _∧∃ b,T139 Ops.std vs ps ts s1 s2 _ some _=some b
   unfold T80 T139
   have c1:(0:Int)≤(i:Int)∧(i:Int)<((vs.length:Nat):Int):=by omega
   have c2:(0:Int)≤(i:Int)∧(i:Int)<((s2.length:Nat):Int):=by omega
   simp only [qae,qag,qaa,qab,if_pos c1,if_pos c2,if_pos c1.2,if_pos c2.2,show IntKind.wrap IntKind.i64 ((i:Int)+1)=((i+1:Nat):Int) from qaf (by omega)]
   split
   ·exact ⟨rfl,_,rfl⟩
   ·split
    ·exact ⟨rfl,_,rfl⟩
    ·exact ih
theorem srP_l0 (hv:vs.length≤100000) (hp:ps.length≤100000) (s1 s2:List Int) (h1:s1.length=ps.length) (h2:s2.length=vs.length):∀ (t i n:Nat),i+t=ps.length→t+100010<n→srP vs ps ts s1 s2 n (.l0 (ps.length:Nat) i)=ftR vs ps ts s1 s2 n (.l0 i)∧∃ b,ftR vs ps ts s1 s2 n (.l0 i)=some b
 | t,i,0,hi,hn=>by omega
 | 0,i,n+1,hi,hn=>by
   show T80 Ops.std _ vs ps ts s1 s2 _ some _=T139 Ops.std vs ps ts s1 s2 _ some _∧∃ b,T139 Ops.std vs ps ts s1 s2 _ some _=some b
   unfold T80 T139
   simp only [qae,qaa]
   rw [if_neg (by omega),if_neg (by omega)]
   exact srP_l1 hv s1 s2 h2 vs.length 0 n (by omega) (by omega)
 | t+1,i,n+1,hi,hn=>by
   have ih:=srP_l0 hv hp s1 s2 h1 h2 t (i+1) n (by omega) (by omega)
   show T80 Ops.std _ vs ps ts s1 s2 _ some _=T139 Ops.std vs ps ts s1 s2 _ some _∧∃ b,T139 Ops.std vs ps ts s1 s2 _ some _=some b
   unfold T80 T139
   have c1:(0:Int)≤(i:Int)∧(i:Int)<((ps.length:Nat):Int):=by omega
   have c2:(0:Int)≤(i:Int)∧(i:Int)<((s1.length:Nat):Int):=by omega
   simp only [qae,qap,qag,qaa,qab,if_pos c1,if_pos c2,if_pos c1.2,if_pos c2.2,show IntKind.wrap IntKind.i64 ((i:Int)+1)=((i+1:Nat):Int) from qaf (by omega)]
   split
   ·exact ⟨rfl,_,rfl⟩
   ·split
    ·exact ⟨rfl,_,rfl⟩
    ·exact ih
theorem stateRight_eq (hM:smallM vs ps ts) (s1 s2:List Int):∃ b,M80 vs ps ts s1 s2=some b∧M81 vs ps ts s1 s2=some b:=by
 obtain ⟨r,r1,_⟩:=qca hM
 show ∃ b,T80 Ops.std M77 vs ps ts s1 s2 (srP vs ps ts s1 s2 1000000) some none=some b∧T81 Ops.std M18 M139 vs ps ts s1 s2 some=some b
 unfold T80 T81
 rw [qdr hM,r1,ob_s,ob_s]
 cases r with
 | false=>exact ⟨_,rfl,rfl⟩
 | true=>
   simp only [Bool.not_true,cond_false]
   have hf:M139 vs ps ts s1 s2=T139 Ops.std vs ps ts s1 s2 (ftR vs ps ts s1 s2 1000000) some none:=rfl
   rw [hf]
   unfold T139
   simp only [qak,qax,qaa]
   by_cases c1:((s1.length:Nat):Int)=((ps.length:Nat):Int)
   ·by_cases c2:((s2.length:Nat):Int)=((vs.length:Nat):Int)
    ·rw [if_neg (fun h=>h c1),if_neg (fun h=>h c2),if_neg (fun h=>h c1),if_neg (fun h=>h c2)]
     have hvl:=hM.vl
     have hpl:=hM.pl
     obtain ⟨e,b,hb⟩:=srP_l0 (ts:=ts) (show vs.length≤100000 by omega) (show ps.length≤100000 by omega) s1 s2 (by omega) (by omega) ps.length 0 1000000 (by omega) (by omega)
     have hb':ftR vs ps ts s1 s2 1000000 (.l0 0)=some b:=hb
     exact ⟨b,e.trans hb,by rw [hb',ob_s]⟩
    ·rw [if_neg (fun h=>h c1),if_pos c2,if_neg (fun h=>h c1),if_pos c2];exact ⟨_,rfl,rfl⟩
   ·rw [if_pos c1,if_pos c1];exact ⟨_,rfl,rfl⟩
noncomputable def stOkB (vs:List Vrb) (ps:List Pcs) (ts:List Trn) (x:Stp):Bool:=(M81 vs ps ts x.1.1 x.1.2).getD false
theorem stOkB_P (hM:smallM vs ps ts) (x:Stp):M79 x.1.1 x.1.2 x.2 vs ps ts=some (!stOkB vs ps ts x,vs,ps,ts):=by
 obtain ⟨b,h1,h2⟩:=stateRight_eq hM x.1.1 x.1.2
 show T79 Ops.std M80 x.1.1 x.1.2 x.2 vs ps ts some=_
 unfold T79 stOkB
 rw [h1,ob_s,h2];rfl
theorem ixW_loop (hM:smallM vs ps ts) (l:List Stp) (hl:l.length≤100000):∀ (t i n:Nat),i+t=l.length→t<n→∃ r:Int,R138 M79 l vs ps ts n (.l0 (l.length:Nat) i vs ps ts)=some (r,vs,ps,ts)∧((l.drop i).all (stOkB vs ps ts)=decide (r<0))
 | t,i,0,hi,hn=>by omega
 | 0,i,n+1,hi,hn=>by
   show ∃ r:Int,T138 Ops.std _ l vs ps ts _ some _=_∧_
   unfold T138
   simp only [qae,qaa]
   rw [if_neg (by omega),List.drop_eq_nil_of_le (by omega)]
   exact ⟨-1,rfl,rfl⟩
 | t+1,i,n+1,hi,hn=>by
   have ih:=ixW_loop hM l hl t (i+1) n (by omega) (by omega)
   show ∃ r:Int,T138 Ops.std _ l vs ps ts _ some _=_∧_
   unfold T138
   simp only [qae,qag,qaa,qab,stOkB_P hM,ob_s,show IntKind.wrap IntKind.i64 ((i:Int)+1)=((i+1:Nat):Int) from qaf (by omega)]
   rw [if_pos (by omega),if_pos (by omega),qar (Ty.dflt ty68) (by omega),List.all_cons]
   cases stOkB vs ps ts (l.getD i (Ty.dflt ty68)) with
   | true=>simpa using ih
   | false=>exact ⟨(i:Int),rfl,by simp⟩
theorem someW_ok (hM:smallM vs ps ts) (l:List Stp) (hl:l.length≤100000):M78 l vs ps ts=some (!l.all (stOkB vs ps ts),vs,ps,ts):=by
 obtain ⟨r,r1,r2⟩:=ixW_loop hM l hl l.length 0 1000000 (by omega) (by omega)
 have e1:M138 l vs ps ts=some (r,vs,ps,ts):=by
  show T138 Ops.std M79 l vs ps ts (R138 M79 l vs ps ts 1000000) some none=_
  unfold T138
  exact r1
 show T78 Ops.std M138 M79 l vs ps ts some=_
 unfold T78
 rw [e1,ob_s]
 rw [List.drop_zero] at r2
 rw [r2,qap,qax]
 congr 2
 by_cases h:r<0
 ·simp [h]
 ·simp [h];omega
noncomputable def lassoB (vs:List Vrb) (ps:List Pcs) (ts:List Trn) (st cy:List Stp):Bool:=((M18 vs ps ts).getD false && !decide (cy.length<1)) && (st++cy).all (stOkB vs ps ts)
theorem rightP_ok (hM:smallM vs ps ts) (st cy:List Stp) (h1:st.length≤100) (h2:cy.length≤100):M41 vs ps ts st cy=some (lassoB vs ps ts st cy):=by
 obtain ⟨r,r1,_⟩:=qca hM
 show T41 Ops.std M77 M75 M79 M78 vs ps ts st cy some=_
 unfold T41 lassoB
 rw [qdr hM,r1,ob_s,Option.getD_some]
 cases r with
 | false=>rfl
 | true=>
   simp only [Bool.not_true,cond_false,qae,qaa,wrap64 (show -9223372036854775808≤(st.length:Int)+(cy.length:Int) by omega) (by omega)]
   by_cases c:cy.length<1
   ·rw [if_pos (by omega)];simp [c]
   ·rw [if_neg (by omega),if_neg (by omega)]
    have hc:=concat_st st cy h1 h2
    have hc':M75 (st::cy::mt _)=some (st++cy):=hc
    rw [hc',ob_s,someW_ok hM _ (by simp;omega),ob_s]
    simp [c]
noncomputable abbrev waR (vs:List Vrb) (ps:List Pcs) (ts:List Trn) (f:List Prt) (st cy:List Stp):=R40 M67 M41 M75 M52 M76 vs ps ts f st cy
theorem AllP_loop (hg:smallG vs ps) (t:Fm Trm) (ht:WF t) (h60:t.size≤60) (w:List Stp×List Stp) (h1:w.1.length≤50) (h2:w.2.length≤50) (h0:1≤w.2.length) (R:List (List Bool)):∀ (hend:∀ m,0<m→waR vs ps ts t.flat w.1 w.2 m (.l0 ((t.size:Nat):Int) ((t.size:Nat):Int) (w.1.length:Nat) (t.post (allV vs ps ts w)) (t.kids 0) (w.1++w.2))=some R),
  ∀ m,t.size*4<m→waR vs ps ts t.flat w.1 w.2 m (.l0 ((t.size:Nat):Int) ((0:Nat):Int) (w.1.length:Nat) [] (t.kids 0) (w.1++w.2))=some R:=by
 intro hend
 have hfl:=t.flat_len
 have hkl:=t.kids_len 0
 have hwl:(w.1++w.2).length=w.1.length+w.2.length:=by simp
 have hb:w.1.length<(w.1++w.2).length:=by omega
 have hrl:∀ u,(allV vs ps ts w u).length=w.1.length+w.2.length:=fun u=>qcb _ _
 have hP:=post_back (allV vs ps ts w) (Ty.dflt ty47) (E:=rightE) (f:=t.flat) (K:=t.kids 0) (fun _=>True) (fun _ _ _=>trivial) (fun _ _ _ _=>⟨trivial,trivial⟩)
  (fun i done=>∀ m,(t.size-i)*4<m→waR vs ps ts t.flat w.1 w.2 m (.l0 ((t.size:Nat):Int) ((i:Nat):Int) (w.1.length:Nat) done (t.kids 0) (w.1++w.2))=some R)
 have one:∀ (i:Nat) (p:Prt) (ks:List Int) (done:List (List Bool)) (kids:List (List Bool)) (o:Nat→Bool) (hi:i<t.size) (hdl:done.length=i) (hp:t.flat.getD i (Ty.dflt ty66)=p) (hks:(t.kids 0).getD i (Ty.dflt ty22)=ks) (hkl2:ks.length≤2)
   (hin:∀ (m:Nat),waR vs ps ts t.flat w.1 w.2 (m+3) (.l1 (i:Int) ((t.size:Nat):Int) (i:Int) ks (ks.length:Nat) 0 (w.1.length:Nat) done [] (t.kids 0) (w.1++w.2))=waR vs ps ts t.flat w.1 w.2 (m+3-ks.length) (.l1 (i:Int) ((t.size:Nat):Int) (i:Int) ks (ks.length:Nat) (ks.length:Nat) (w.1.length:Nat) done kids (t.kids 0) (w.1++w.2)))
   (hpart:M76 vs ps ts (w.1++w.2) (w.1.length:Nat) p.1 p.2 kids=some (rowL (w.1++w.2).length o))
   (hnx:∀ m,(t.size-(i+1))*4<m→waR vs ps ts t.flat w.1 w.2 m (.l0 ((t.size:Nat):Int) ((i+1:Nat):Int) (w.1.length:Nat) (done++[rowL (w.1++w.2).length o]) (t.kids 0) (w.1++w.2))=some R),
   ∀ m,(t.size-i)*4<m→waR vs ps ts t.flat w.1 w.2 m (.l0 ((t.size:Nat):Int) ((i:Nat):Int) (w.1.length:Nat) done (t.kids 0) (w.1++w.2))=some R:=by
  intro i p ks done kids o hi hdl hp hks hkl2 hin hpart hnx m hm
  obtain ⟨m,rfl⟩:∃ m',m=(m'+3)+1:=⟨m-4,by omega⟩
  have e1:waR vs ps ts t.flat w.1 w.2 ((m+3)+1) (.l0 ((t.size:Nat):Int) ((i:Nat):Int) (w.1.length:Nat) done (t.kids 0) (w.1++w.2))=waR vs ps ts t.flat w.1 w.2 (m+3) (.l1 (i:Int) ((t.size:Nat):Int) (i:Int) ks (ks.length:Nat) 0 (w.1.length:Nat) done [] (t.kids 0) (w.1++w.2)):=by
   show T40 Ops.std _ _ _ _ _ vs ps ts t.flat w.1 w.2 _ some _=_
   unfold T40
   simp only [qae,qag,qaa,qab,hks]
   rw [if_pos (by omega),if_pos (by omega)]
  rw [e1,hin]
  obtain ⟨q,hq⟩:∃ q,m+3-ks.length=q+1:=⟨m+3-ks.length-1,by omega⟩
  rw [hq]
  show T40 Ops.std _ _ _ _ _ vs ps ts t.flat w.1 w.2 _ some _=_
  unfold T40
  simp only [qae,qag,qam,qaa,qab,hp,hpart,ob_s,mt,List.length_cons,List.length_nil,show IntKind.wrap IntKind.i64 ((i:Int)+1)=((i+1:Nat):Int) from qaf (by omega)]
  rw [if_neg (by omega),if_pos (by omega),if_pos (by omega)]
  exact hnx q (by omega)
 have inn:∀ (i:Nat) (ks:List Int) (j x:Nat) (done acc:List (List Bool)) (m:Nat),j<ks.length→ks.length≤2→acc.length=j→done.length≤60→(∀ d,ks.getD j d=(x:Int))→x<done.length→
   waR vs ps ts t.flat w.1 w.2 (m+1) (.l1 (i:Int) ((t.size:Nat):Int) (i:Int) ks (ks.length:Nat) (j:Nat) (w.1.length:Nat) done acc (t.kids 0) (w.1++w.2))=waR vs ps ts t.flat w.1 w.2 m (.l1 (i:Int) ((t.size:Nat):Int) (i:Int) ks (ks.length:Nat) ((j+1:Nat):Int) (w.1.length:Nat) done (acc++[done.getD x (Ty.dflt ty47)]) (t.kids 0) (w.1++w.2)):=by
  intro i ks j x done acc m hj h2 ha hd hx hxl
  show T40 Ops.std _ _ _ _ _ vs ps ts t.flat w.1 w.2 _ some _=_
  unfold T40
  simp only [qae,qag,qam,qaa,qab,hx,mt,List.length_cons,List.length_nil,show IntKind.wrap IntKind.i64 ((j:Int)+1)=((j+1:Nat):Int) from qaf (by omega)]
  rw [if_pos (by omega),if_pos (by omega),if_pos (by omega),if_pos (by omega)]
 have lensO:∀ u,(allV vs ps ts w u).length=(w.1++w.2).length:=fun u=>(hrl u).trans hwl.symm
 have fn:∀ u i,i<(w.1++w.2).length→fnB (allV vs ps ts w u) i=semT (w.1.length+w.2.length) w.1.length (valE vs ps ts (w.1++w.2)) u i:=fun u i hi=>qec _ _ i (by omega)
 have cg:∀ (u:Fm Trm),allV vs ps ts w u=rowL (w.1++w.2).length (semT (w.1.length+w.2.length) w.1.length (valE vs ps ts (w.1++w.2)) u):=fun u=>by rw [hwl]
 refine (hP ?_ ?_ ?_ t ht trivial 0 (At.all t) [] rfl ?_)
 ·intro i p done hw _ hi hiK hdl hp hK hnx m hm
  refine one i p [] done [] (semT (w.1.length+w.2.length) w.1.length (valE vs ps ts (w.1++w.2)) (.nul p)) (by omega) hdl hp hK (by simp) (fun m=>by rfl) ?_ (fun m hm=>by rw [←cg];exact hnx m hm) m hm
  refine part_row ts hg (w.1++w.2) w.1.length (by omega) hb p.1 p.2 (fun h3=>shortE.of (hw.2.1 h3)) [] [] [] (.inl hw.1) fun i hi=>?_
  have hop:p.1=1∨p.1=2∨p.1=3:=by
   have h0:=hw.1
   unfold opn at h0;split at h0<;>first | assumption | (split at h0<;>first | omega | (split at h0<;>omega))
  show _=sem0 (valE vs ps ts (w.1++w.2)) p i
  unfold sem0 rowOK
  rcases hop with h | h | h<;>rw [h]<;>rfl
 ·intro i p a j done hw _ hi hiK hdl hp hK hji hg1 hnx m hm
  refine one i p [(j:Int)] done [allV vs ps ts w a] (semT (w.1.length+w.2.length) w.1.length (valE vs ps ts (w.1++w.2)) (.un p a)) (by omega) hdl hp hK (by simp) (fun m=>?_) ?_ (fun m hm=>by rw [←cg];exact hnx m hm) m hm
  ·have:=inn i [(j:Int)] 0 j done [] (m+2) (by simp) (by simp) rfl (by omega) (fun d=>rfl) (by omega)
   rw [hg1] at this
   exact this
  ·refine part_row ts hg (w.1++w.2) w.1.length (by omega) hb p.1 p.2 (fun h3=>absurd h3 (ne3 hw.1 (by omega))) (allV vs ps ts w a) [] _ (.inr (.inl ⟨hw.1,rfl,lensO a⟩)) fun i hi=>?_
   have hop:p.1=4∨p.1=8∨p.1=11∨p.1=12:=by
    have h1:=hw.1
    unfold opn at h1;split at h1<;>first | omega | (split at h1<;>first | assumption | (split at h1<;>omega))
   have hb':w.1.length<w.1.length+w.2.length:=by omega
   have hi':i<w.1.length+w.2.length:=by omega
   have hfn:∀ i,i<w.1.length+w.2.length→fnB (allV vs ps ts w a) i=semT (w.1.length+w.2.length) w.1.length (valE vs ps ts (w.1++w.2)) a i:=fun i hi=>fn a i (by omega)
   rw [hwl]
   show _=sem1 (w.1.length+w.2.length) w.1.length p.1 (semT (w.1.length+w.2.length) w.1.length (valE vs ps ts (w.1++w.2)) a) i
   unfold rowOK
   rw [if_neg (by omega),if_neg (by omega),if_neg (by omega),if_pos (by omega)]
   unfold sem1
   rcases hop with h | h | h | h<;>rw [h]
   ·show (!fnB (allV vs ps ts w a) i)=!_
    rw [hfn i hi']
   ·exact hfn _ (qfx _ _ hb' hi')
   ·exact qgg (h:=fun i=>i) hb' hb' (fun i hi=>hi) (fun i hi=>rfl) (qdo _) (qdo _) (fun i x hi=>by unfold ruF;rw [hfn i hi]) i hi'
   ·exact gf_map (h:=fun i=>i) hb' hb' (fun i hi=>hi) (fun i hi=>rfl) (qdp _) (qdp _) (fun i x hi=>by unfold ruG;rw [hfn i hi]) i hi'
 ·intro i p a c j k done hw _ hi hiK hdl hp hK hji hki hg1 hg2 hnx m hm
  refine one i p [(j:Int),(k:Int)] done [allV vs ps ts w a,allV vs ps ts w c] (semT (w.1.length+w.2.length) w.1.length (valE vs ps ts (w.1++w.2)) (.bi p a c)) (by omega) hdl hp hK (by simp) (fun m=>?_) ?_ (fun m hm=>by rw [←cg];exact hnx m hm) m hm
  ·have e1:=inn i [(j:Int),(k:Int)] 0 j done [] (m+2) (by simp) (by simp) rfl (by omega) (fun d=>rfl) (by omega)
   rw [hg1] at e1
   have e2:=inn i [(j:Int),(k:Int)] 1 k done [allV vs ps ts w a] (m+1) (by simp) (by simp) rfl (by omega) (fun d=>rfl) (by omega)
   rw [hg2] at e2
   exact e1.trans e2
  ·refine part_row ts hg (w.1++w.2) w.1.length (by omega) hb p.1 p.2 (fun h3=>absurd h3 (ne3 hw.1 (by omega))) (allV vs ps ts w a) (allV vs ps ts w c) _ (.inr (.inr ⟨hw.1,rfl,lensO a,lensO c⟩)) fun i hi=>?_
   have hop:p.1=5∨p.1=6∨p.1=7∨p.1=9∨p.1=10:=by
    have h2:=hw.1
    unfold opn at h2;split at h2<;>first | omega | (split at h2<;>first | omega | (split at h2<;>first | assumption | omega))
   have hb':w.1.length<w.1.length+w.2.length:=by omega
   have hi':i<w.1.length+w.2.length:=by omega
   have hfa:∀ i,i<w.1.length+w.2.length→fnB (allV vs ps ts w a) i=semT (w.1.length+w.2.length) w.1.length (valE vs ps ts (w.1++w.2)) a i:=fun i hi=>fn a i (by omega)
   have hfc:∀ i,i<w.1.length+w.2.length→fnB (allV vs ps ts w c) i=semT (w.1.length+w.2.length) w.1.length (valE vs ps ts (w.1++w.2)) c i:=fun i hi=>fn c i (by omega)
   rw [hwl]
   show _=sem2 (w.1.length+w.2.length) w.1.length p.1 (semT (w.1.length+w.2.length) w.1.length (valE vs ps ts (w.1++w.2)) a) (semT (w.1.length+w.2.length) w.1.length (valE vs ps ts (w.1++w.2)) c) i
   unfold rowOK
   rw [if_neg (by omega),if_neg (by omega),if_neg (by omega),if_neg (by omega)]
   unfold sem2
   rcases hop with h | h | h | h | h<;>rw [h]
   ·show (fnB (allV vs ps ts w a) i && fnB (allV vs ps ts w c) i)=(_ && _)
    rw [hfa i hi',hfc i hi']
   ·show (fnB (allV vs ps ts w a) i || fnB (allV vs ps ts w c) i)=(_ || _)
    rw [hfa i hi',hfc i hi']
   ·show (!fnB (allV vs ps ts w a) i || fnB (allV vs ps ts w c) i)=(!_ || _)
    rw [hfa i hi',hfc i hi']
   ·exact qgg (h:=fun i=>i) hb' hb' (fun i hi=>hi) (fun i hi=>rfl) (qbo _ _) (qbo _ _) (fun i x hi=>by unfold ruU;rw [hfa i hi,hfc i hi]) i hi'
   ·exact gf_map (h:=fun i=>i) hb' hb' (fun i hi=>hi) (fun i hi=>rfl) (qb9 _ _) (qb9 _ _) (fun i x hi=>by unfold ruR;rw [hfa i hi,hfc i hi]) i hi'
 ·intro m hm
  rw [Nat.zero_add] at hm ⊢
  exact hend m (by omega)
theorem AllP_ok (hM:smallM vs ps ts) (t:Fm Trm) (ht:WF t) (h60:t.size≤60) (w:List Stp×List Stp) (h1:w.1.length≤50) (h2:w.2.length≤50) :
  M40 vs ps ts t.flat w.1 w.2=some (if knA vs ps ts t.flat && lassoB vs ps ts w.1 w.2 then t.post (allV vs ps ts w) else []):=by
 have hfl:=t.flat_len
 have hkl:=t.kids_len 0
 show T40 Ops.std M67 M41 M75 M52 M76 vs ps ts t.flat w.1 w.2 (waR vs ps ts t.flat w.1 w.2 1000000) some none=_
 unfold T40
 rw [knownFP_ok ts hM.g t.flat (by omega) (wf_atm ht) (T_rightP ht h60),ob_s,rightP_ok hM w.1 w.2 (by omega) (by omega),ob_s]
 cases hk:knA vs ps ts t.flat with
 | false=>rfl
 | true=>
   cases hl:lassoB vs ps ts w.1 w.2 with
   | false=>rfl
   | true=>
     have h0:1≤w.2.length:=by
      unfold lassoB at hl
      simp only [Bool.and_eq_true,Bool.not_eq_true',decide_eq_false_iff_not] at hl
      omega
     have hc:M75 (w.1::w.2::mt _)=some (w.1++w.2):=concat_st w.1 w.2 (by omega) (by omega)
     simp only [Bool.not_true,cond_false,Bool.and_self,if_true]
     rw [hc,ob_s,prog_kids_yes rightE ht h60 (T_rightP ht h60),ob_s,hkl]
     refine AllP_loop hM.g t ht h60 w h1 h2 h0 _ (fun m hm=>?_) 1000000 (by omega)
     obtain ⟨m,rfl⟩:∃ m',m=m'+1:=⟨m-1,by omega⟩
     show T40 Ops.std _ _ _ _ _ vs ps ts t.flat w.1 w.2 _ some _=_
     unfold T40
     simp only [qae,qaa]
     rw [if_neg (by omega)]
theorem TrueP_ok (hM:smallM vs ps ts) (t:Fm Trm) (ht:WF t) (h60:t.size≤60) (w:List Stp×List Stp) (h1:w.1.length≤50) (h2:w.2.length≤50) :
  M43 vs ps ts t.flat w.1 w.2=some ((knA vs ps ts t.flat && lassoB vs ps ts w.1 w.2) && semT (w.1.length+w.2.length) w.1.length (valE vs ps ts (w.1++w.2)) t 0):=by
 show T43 Ops.std M40 vs ps ts t.flat w.1 w.2 some=_
 unfold T43
 rw [AllP_ok hM t ht h60 w h1 h2,ob_s]
 cases hc:(knA vs ps ts t.flat && lassoB vs ps ts w.1 w.2) with
 | false=>rfl
 | true=>
   have h0:1≤w.2.length:=by
    unfold lassoB at hc
    simp only [Bool.and_eq_true,Bool.not_eq_true',decide_eq_false_iff_not] at hc
    omega
   have hl:=qcw (allV vs ps ts w) t
   have hs:=t.size_pos
   have hgl:=qev (allV vs ps ts w) (Ty.dflt ty47) t [] []
   simp only [List.nil_append,List.append_nil,List.length_nil,Nat.zero_add] at hgl
   have hrl:(allV vs ps ts w t).length=w.1.length+w.2.length:=qcb _ _
   have w1:IntKind.wrap IntKind.i64 ((t.size:Int)-1)=((t.size-1:Nat):Int):=by rw [wrap64 (by omega) (by omega)];omega
   have e0:=qec (w.1.length+w.2.length) (semT (w.1.length+w.2.length) w.1.length (valE vs ps ts (w.1++w.2)) t) 0 (by omega)
   simp only [if_true,qae,qag,qaa,hl,w1,qab,hgl,hrl,Bool.true_and]
   rw [if_pos (by omega),if_pos (by omega),if_pos (by omega)]
   congr 1
end
section
variable {vs:List Vrb} {ps:List Pcs} {ts:List Trn}
noncomputable def trW (vs:List Vrb) (ps:List Pcs) (ts:List Trn) (t:Fm Trm) (st cy:List Stp) (i:Nat):Bool:=semT (st.length+cy.length) st.length (valE vs ps ts (st++cy)) t i
theorem wd_map (t:Fm Trm) {st cy st' cy':List Stp} (h0:1≤cy.length) (h0':1≤cy'.length) (h:Nat→Nat) (hn:∀ i,i<st'.length+cy'.length→h i<st.length+cy.length) (hx:∀ i,i<st'.length+cy'.length→h (nx (st'.length+cy'.length) st'.length i)=nx (st.length+cy.length) st.length (h i))
  (hs:∀ i,i<st'.length+cy'.length→(st'++cy').getD i (Ty.dflt ty68)=(st++cy).getD (h i) (Ty.dflt ty68)):∀ i,i<st'.length+cy'.length→trW vs ps ts t st' cy' i=trW vs ps ts t st cy (h i):=
 sem_map (by omega) (by omega) h hn hx (valE vs ps ts (st++cy)) (valE vs ps ts (st'++cy')) (fun e i hi=>by unfold valE;rw [hs i hi]) t
theorem qfu {st cy:List Stp}:lassoB vs ps ts st cy=true↔((M18 vs ps ts).getD false=true∧1≤cy.length∧∀ x∈st++cy,stOkB vs ps ts x=true):=by
 unfold lassoB
 simp only [Bool.and_eq_true,Bool.not_eq_true',decide_eq_false_iff_not,List.all_eq_true]
 constructor
 ·rintro ⟨⟨h1,h2⟩,h3⟩;exact ⟨h1,by omega,h3⟩
 ·rintro ⟨h1,h2,h3⟩;exact ⟨⟨h1,by omega⟩,h3⟩
theorem lasso_of {st cy st' cy':List Stp} (h:lassoB vs ps ts st cy=true) (h0:1≤cy'.length) (hs:∀ x∈st'++cy',x∈st++cy):lassoB vs ps ts st' cy'=true:=by
 obtain ⟨h1,h2,h3⟩:=qfu.1 h
 exact qfu.2 ⟨h1,h0,fun x hx=>h3 x (hs x hx)⟩
theorem qds {A:Type} (a b:List A) (i:Nat) (d:A):(a++b).getD i d=if i<a.length then a.getD i d else b.getD (i-a.length) d:=by
 simp only [List.getD_eq_getElem?_getD]
 by_cases h:i<a.length
 ·rw [if_pos h,List.getElem?_append_left h]
 ·rw [if_neg h,List.getElem?_append_right (by omega)]
theorem roll_on (t:Fm Trm) (st:List Stp) (c:Stp) (cy:List Stp):trW vs ps ts t (st++[c]) (cy++[c]) 0=trW vs ps ts t st (c::cy) 0:=by
 have key:=wd_map (vs:=vs) (ps:=ps) (ts:=ts) t (st:=st) (cy:=c::cy) (st':=st++[c]) (cy':=cy++[c]) (by simp) (by simp) (fun i=>if i<st.length+(cy.length+1) then i else st.length)
  (fun i hi=>by simp only [List.length_append,List.length_cons,List.length_nil] at hi ⊢;split<;>omega)
  (fun i hi=>by
    simp only [List.length_append,List.length_cons,List.length_nil] at hi ⊢
    unfold nx
    by_cases h1:i+1=st.length+(0+1)+(cy.length+(0+1))
    ·rw [if_pos h1]
     have e2:¬ i<st.length+(cy.length+1):=by omega
     rw [if_neg e2]
     by_cases h3:st.length+1=st.length+(cy.length+1)
     ·rw [if_pos h3,if_neg (by omega)]
     ·rw [if_neg h3,if_pos (by omega)]
    ·rw [if_neg h1]
     by_cases h2:i<st.length+(cy.length+1)
     ·rw [if_pos h2]
      by_cases h3:i+1=st.length+(cy.length+1)
      ·rw [if_pos h3,if_neg (by omega)]
      ·rw [if_neg h3,if_pos (by omega)]
     ·omega)
  (fun i hi=>by
    simp only [List.length_append,List.length_cons,List.length_nil] at hi
    have e:st++[c]++(cy++[c])=(st++(c::cy))++[c]:=by simp
    rw [e,qds]
    simp only [List.length_append,List.length_cons]
    by_cases h2:i<st.length+(cy.length+1)
    ·rw [if_pos h2,if_pos h2]
    ·rw [if_neg h2,if_neg h2,qds,if_neg (by omega),show i-(st.length+(cy.length+1))=0 by omega,Nat.sub_self];rfl)
  0 (by simp;omega)
 rw [key,if_pos (by omega)]
theorem roll_twice (t:Fm Trm) (st cy:List Stp) (h0:1≤cy.length):trW vs ps ts t st (cy++cy) 0=trW vs ps ts t st cy 0:=by
 have key:=wd_map (vs:=vs) (ps:=ps) (ts:=ts) t (st:=st) (cy:=cy) (st':=st) (cy':=cy++cy) h0 (by simp;omega) (fun i=>if i<st.length+cy.length then i else i-cy.length)
  (fun i hi=>by simp only [List.length_append] at hi ⊢;split<;>omega)
  (fun i hi=>by
    simp only [List.length_append] at hi ⊢
    unfold nx
    by_cases h1:i+1=st.length+(cy.length+cy.length)
    ·have e2:¬ i<st.length+cy.length:=by omega
     rw [if_pos h1,if_neg e2,if_pos (show st.length<st.length+cy.length by omega),if_pos (by omega)]
    ·rw [if_neg h1]
     by_cases h2:i<st.length+cy.length
     ·rw [if_pos h2]
      by_cases h3:i+1=st.length+cy.length
      ·rw [if_pos h3,if_neg (by omega)];omega
      ·rw [if_neg h3,if_pos (by omega)]
     ·rw [if_neg h2,if_neg (by omega),if_neg (by omega)];omega)
  (fun i hi=>by
    simp only [List.length_append] at hi
    rw [←List.append_assoc,qds,List.length_append]
    by_cases h2:i<st.length+cy.length
    ·rw [if_pos h2,if_pos h2]
    ·rw [if_neg h2,if_neg h2,qds,if_neg (by omega)]
     congr 1;omega)
  0 (by simp;omega)
 rw [key,if_pos (by omega)]
end
theorem known16:M38=some true:=by kernel_rfl
theorem of_ok16 (s:List UInt8):∃ f:List Prt,M39 s=some f∧(f=[]∨(f.length≤24∧goodF f)):=by
 obtain ⟨e,x,f,h1,h2⟩:=parse_ok s
 refine ⟨f,?_,?_⟩
 ·show T39 Ops.std M45 s some=_
  unfold T39
  rw [h1,ob_s]
 ·rcases h2 with h | h
  ·exact .inl h
  ·exact .inr h.2
theorem nil_short16:∀ p∈([]:List Prt),shortP p:=fun p h=>by cases h
section
variable {vs:List Vrb} {ps:List Pcs} {ts:List Trn}
end
theorem known13_nil {vs:List Vrb} {ps:List Pcs} {ts:List Trn} (f:List Prt) (h:f=[]):M19 vs ps ts f=some false:=by
 have h1:M63 f=some false:=N_rightR (by rw [h];simp) (by rw [h];exact nil_short16) (by rw [h];rfl)
 show T19 Ops.std M62 M63 vs ps ts f (k3R vs ps ts f 1000000) some none=_
 unfold T19
 show T19 Ops.std M62 M63 vs ps ts f (k3R vs ps ts f 999999) some (some (.l0 0))=_
 unfold T19
 simp only [qae,qaa]
 rw [if_neg (by rw [h];simp),h1,ob_s]
theorem plainWordRolls (p0:List Int) (p1 p2:Int) (p3:List (List Int)) (p4 p5:List Int) (w0:Ty.wf ty22 p0) (w1:Ty.wf ty3 p1) (w2:Ty.wf ty3 p2) (w3:Ty.wf ty23 p3) (w4:Ty.wf ty22 p4) (w5:Ty.wf ty22 p5):M8 p0 p1 p2 p3 p4 p5=some true:=by
 show T8 Ops.std M38 M12 M15 M39 M20 M41 M19 M43 p0 p1 p2 p3 p4 p5 some=_
 unfold T8
 obtain ⟨s,hs,_⟩:=formula_ok p0
 obtain ⟨f,hf,hf2⟩:=of_ok16 s
 obtain ⟨vs,ps,ts,hm,hro⟩:=Model_ok2 p1 p2 p3
 have hM:=hro.1
 obtain ⟨w,hw,hok⟩:=Word_ok (ts:=ts) hro.good p4 p5
 obtain ⟨l1,l2,l3,l4,l5⟩:=hok
 rw [known16,hs,hm]
 simp only [ob_s,hf,hw,Bool.not_true,cond_false]
 rw [rightP_ok hM w.1 w.2 (by omega) (by omega),ob_s]
 cases hl:lassoB vs ps ts w.1 w.2 with
 | false=>rfl
 | true=>
   simp only [Bool.not_true,cond_false]
   rcases hf2 with h0 | ⟨h24,hgf⟩
   ·rw [known13_nil f h0,ob_s];rfl
   ·obtain ⟨t,ht,rfl,h60⟩:=good_tree hgf (by omega)
    rw [known13_ok ts hM.g t.flat (by rw [t.flat_len];exact h60) (wf_atm ht) (T_rightR ht h60),ob_s]
    cases hk:knA vs ps ts t.flat with
    | false=>rfl
    | true=>
      simp only [Bool.not_true,cond_false]
      obtain ⟨st,cy⟩:=w
      dsimp only at l1 l2 l3 l4 l5 hl ⊢
      obtain ⟨c,cr,rfl⟩:∃ c cr,cy=c::cr:=by
       cases cy with
       | nil=>simp at l2
       | cons c cr=>exact ⟨c,cr,rfl⟩
      have e1:List.drop (Int.toNat 1) (List.take (c::cr).length (c::cr))=cr:=by rw [List.take_length];rfl
      have e3:List.drop (Int.toNat 1) (List.take (cr.length+1) (c::cr))=cr:=e1
      have e2:(c::cr).getD (Int.toNat 0) (Ty.dflt ty68)=c:=rfl
      simp only [List.length_cons] at l3
      simp only [e1,e2,e3,qag,qam,qaa,mt,List.length_cons,List.length_nil,List.length_append,List.nil_append]
      have hA:M43 vs ps ts t.flat st (c::cr)=some (trW vs ps ts t st (c::cr) 0):=by
       have:=TrueP_ok hM t ht h60 (st,c::cr) (by simp only;omega) (by simp only [List.length_cons];omega)
       rw [hk,hl] at this
       rw [this]
       simp only [Bool.and_self,Bool.true_and]
       rfl
      have hB:M43 vs ps ts t.flat (st++[c]) (cr++[c])=some (trW vs ps ts t st (c::cr) 0):=by
       have hl':lassoB vs ps ts (st++[c]) (cr++[c])=true:=lasso_of hl (by simp) fun x hx=>by
        simp only [List.mem_append,List.mem_cons,List.not_mem_nil,or_false] at hx ⊢
        rcases hx with (h | h) | h | h
        ·exact .inl h
        ·exact .inr (.inl h)
        ·exact .inr (.inr h)
        ·exact .inr (.inl h)
       have:=TrueP_ok hM t ht h60 (st++[c],cr++[c]) (by simp;omega) (by simp;omega)
       rw [hk,hl'] at this
       rw [this,←roll_on t st c cr]
       simp only [Bool.and_self,Bool.true_and]
       rfl
      have hC:M43 vs ps ts t.flat st (c::cr++c::cr)=some (trW vs ps ts t st (c::cr) 0):=by
       have hl':lassoB vs ps ts st (c::cr++c::cr)=true:=lasso_of hl (by simp) fun x hx=>by
        simp only [List.mem_append,List.mem_cons] at hx ⊢
        rcases hx with h | (h | h) | h | h
        ·exact .inl h
        ·exact .inr (.inl h)
        ·exact .inr (.inr h)
        ·exact .inr (.inl h)
        ·exact .inr (.inr h)
       have:=TrueP_ok hM t ht h60 (st,c::cr++c::cr) (by simp only;omega) (by simp;omega)
       rw [hk,hl'] at this
       rw [this,←roll_twice t st (c::cr) (by simp)]
       simp only [Bool.and_self,Bool.true_and]
       rfl
      rw [if_pos (by omega),if_pos (by omega),if_pos (by omega),if_pos (by omega),if_pos (by omega),if_pos (by omega),if_pos (by omega),if_pos (by omega),if_pos (by omega)]
      have hC':M43 vs ps ts t.flat st (c::(cr++c::cr))=some (trW vs ps ts t st (c::cr) 0):=hC
      have hB':M43 vs ps ts t.flat (st++[((c.1.1,c.1.2),c.2)]) (cr++[((c.1.1,c.1.2),c.2)])=some (trW vs ps ts t st (c::cr) 0):=hB
      simp only [List.cons_append]
      rw [hA,ob_s,hB',ob_s,beq_self_eq_true,cond_true,hC',ob_s,beq_self_eq_true]
end Go.Proofs.YtccnmhdgghjgoaaGreatDoor.Av
