/- The plain law of TableauOne,TableauWords: what its twin computes answers true. Conditions: none. -/
import Derived.Test.YtccnmhdgghjgoaaGreatDoorPTableauOneb
set_option maxRecDepth 100000
namespace Go.Proofs.YtccnmhdgghjgoaaGreatDoor.Av
open Go
section
variable (p0:List Int) (p1:Bool) (p2 p3:Int) (p4:List (List Int)) (p5 p6:Int)
noncomputable abbrev onR:=R6 M24 M12 M28 M18 M19 M26 M30 M29 M31 M33 M35 p0 p1 p2 p3 p4 p5 p6
theorem on_l1 (L:List Int) (hs:L.Pairwise (·<·)) (hl:L.length≤1000):∀ (k i n:Nat),i+k=L.length→k<n→onR p0 p1 p2 p3 p4 p5 p6 n (.l1 1 (L.length:Nat) (L.length:Nat) i L)=some true
 | k,i,0,hi,hn=>by omega
 | 0,i,n+1,hi,hn=>by
   show T6 Ops.std _ _ _ _ _ _ _ _ _ _ _ p0 p1 p2 p3 p4 p5 p6 _ some _=_
   unfold T6
   simp only [qag,qaq,qab]
   rw [if_neg (by omega),if_pos trivial]
   simp
 | k+1,i,n+1,hi,hn=>by
   have ih:=on_l1 L hs hl k (i+1) n (by omega) (by omega)
   show T6 Ops.std _ _ _ _ _ _ _ _ _ _ _ p0 p1 p2 p3 p4 p5 p6 _ some _=_
   unfold T6
   simp only [qag,qaz,qal,qab,qad,show IntKind.wrap IntKind.i64 ((i:Int)+1)=((i+1:Nat):Int) from qah (by omega)]
   rw [if_pos (by omega)]
   by_cases h0:(0:Int)<(i:Int)
   ·have hw:IntKind.wrap IntKind.i64 ((i:Int)-1)=((i-1:Nat):Int):=by rw [wrap64 (by omega) (by omega)];omega
    have:=List.pairwise_iff_getElem.1 hs (i-1) i (by omega) (by omega) (by omega)
    rw [if_pos h0]
    simp only [hw,qad]
    rw [if_pos (by omega),if_pos (by omega),if_neg]
    ·exact ih
    ·simp only [List.getD_eq_getElem?_getD,List.getElem?_eq_getElem (show i<L.length by omega),List.getElem?_eq_getElem (show i-1<L.length by omega),Option.getD_some]
     omega
   ·rw [if_neg h0];exact ih
theorem on_l0 {vs:List Vrb} {ps:List Pcs} {ts:List Trn} (hg:smallG vs ps) {t:Fm Trm} (ht:WF t) (hi:isT t=true) (h60:t.size≤60) (hp:(prL t.flat).length≤6) (hk:knA vs ps ts t.flat=true) (s1 s2:List Int) (T:List Bool) (hT:T.length=t.size) (k0:Nat) (hk0:k0<2 ^ (prL t.flat).length) (hfit:∀ k,k<2 ^ (prL t.flat).length→(fitG t.flat (t.kids 0) (prL t.flat) k T 0↔k=k0)) :
  ∀ (r i n:Nat),i+r=2 ^ (prL t.flat).length→r+100<n→onR p0 p1 p2 p3 p4 p5 p6 n (.l0 ((2 ^ (prL t.flat).length:Nat):Int) ((if k0<i then 1 else 0:Nat):Int) ((hvF (hasM vs ps ts t s1 s2) i:Nat):Int) i vs ps ts t.flat s1 s2 T)=some true
 | r,i,0,hr,hn=>by omega
 | 0,i,n+1,hr,hn=>by
   have h64:=qbs hp
   have hle:=mkF_le (hasM vs ps ts t s1 s2) (2 ^ (prL t.flat).length) 0
   show T6 Ops.std _ _ _ _ _ _ _ _ _ _ _ p0 p1 p2 p3 p4 p5 p6 _ some _=_
   unfold T6
   simp only [qag,qab]
   rw [if_neg (by omega),MasksP_ok hg ht hi h60 hp hk,ob_s,if_pos (show k0<i by omega),show i=2 ^ (prL t.flat).length by omega,←mkF_len]
   exact on_l1 p0 p1 p2 p3 p4 p5 p6 (masksL vs ps ts t s1 s2) (qge _ _ _) (by show (mkF _ _ _).length≤1000;omega) (masksL vs ps ts t s1 s2).length 0 n (by omega) (by show (mkF _ _ _).length<n;omega)
 | r+1,i,n+1,hr,hn=>by
   have h64:=qbs hp
   have ih:=on_l0 hg ht hi h60 hp hk s1 s2 T hT k0 hk0 hfit r (i+1) n (by omega) (by omega)
   have hfl:=t.flat_len
   have hs:=t.size_pos
   have hl:=tvM_len (vs:=vs) (ps:=ps) ts t s1 s2 i
   have hw:IntKind.wrap IntKind.i64 ((t.size:Int)-1)=((t.size-1:Nat):Int):=by rw [wrap64 (by omega) (by omega)];omega
   have hh:(tvM vs ps ts t s1 s2 i).getD (t.size-1) (Ty.dflt ty4)=hasM vs ps ts t s1 s2 i:=rfl
   obtain ⟨b,b1,b2⟩:=FitsP_ok ht hi h60 hp i (by omega) T hT
   have hv:∀ j,hvF (hasM vs ps ts t s1 s2) j≤j:=fun j=>by
    have:=mkF_le (hasM vs ps ts t s1 s2) j 0
    rw [mkF_len] at this;exact this
   have hvi:=hv i
   have hq:b=true↔i=k0:=b2.trans (hfit i (by omega))
   show T6 Ops.std _ _ _ _ _ _ _ _ _ _ _ p0 p1 p2 p3 p4 p5 p6 _ some _=_
   unfold T6
   simp only [qag,qaq,qal,qa4,qab,qad,b1,ob_s,qds hg ht hi h60 hp hk s1 s2 i (by omega),hl,hfl,hw,hh,show IntKind.wrap IntKind.i64 ((i:Int)+1)=((i+1:Nat):Int) from qah (by omega),show IntKind.wrap IntKind.i64 (((hvF (hasM vs ps ts t s1 s2) i:Nat):Int)+1)=((hvF (hasM vs ps ts t s1 s2) i+1:Nat):Int) from qah (by omega)]
   rw [if_pos (by omega)]
   rw [hvF] at ih
   cases hb:b with
   | true=>
     have e:=hq.1 hb
     rw [if_pos (show k0<i+1 by omega)] at ih
     rw [if_neg (show ¬ k0<i by omega),if_neg (by simp),if_pos (by omega)]
     cases hc:hasM vs ps ts t s1 s2 i with
     | true=>rw [hc] at ih;exact ih
     | false=>rw [hc] at ih;exact ih
   | false=>
     have e:¬ i=k0:=fun h=>by rw [hq.2 h] at hb;cases hb
     have e2:(if k0<i+1 then 1 else 0:Nat)=if k0<i then 1 else 0:=by split<;>split<;>omega
     rw [e2] at ih
     simp only [cond_false]
     rw [if_neg (by simp),if_pos (by omega)]
     cases hc:hasM vs ps ts t s1 s2 i with
     | true=>rw [hc] at ih;exact ih
     | false=>rw [hc] at ih;exact ih
end
theorem plainTableauOne (p0:List Int) (p1:Bool) (p2 p3:Int) (p4:List (List Int)) (p5 p6:Int) (w0:Ty.wf ty22 p0) (w1:True) (w2:Ty.wf ty3 p2) (w3:Ty.wf ty3 p3) (w4:Ty.wf ty23 p4) (w5:(Lit.int .i64 p5).wf=true) (w6:(Lit.int .i64 p6).wf=true):M6 p0 p1 p2 p3 p4 p5 p6=some true:=by
 show T6 Ops.std M24 M12 M28 M18 M19 M26 M30 M29 M31 M33 M35 p0 p1 p2 p3 p4 p5 p6 (onR p0 p1 p2 p3 p4 p5 p6 1000000) some none=_
 unfold T6
 obtain ⟨f,hf,hf2⟩:=few_ok p0 p1
 obtain ⟨vs,ps,ts,hm,hsm⟩:=Model_ok p2 p3 p4
 rw [known17,hm,hf]
 simp only [ob_s,Bool.not_true,cond_false,qaq,qag,qa4,qab]
 have kk:(ob M24 fun y=>some y)=some true:=by rw [known17,ob_s]
 rcases hf2 with h0 | ⟨t,ht,hi,h60,hp,rfl⟩
 ·rw [h0,if_pos (by simp)]
 ·have hfl:=t.flat_len
  have hs1:=t.size_pos
  have h64:=qbs hp
  rw [if_neg (by omega)]
  obtain ⟨r,hr,hgood⟩:=qck (vs:=vs) (ps:=ps) (ts:=ts) hsm
  rw [hr,ob_s]
  cases r with
  | false=>rfl
  | true=>
    simp only [Bool.not_true,cond_false]
    rw [qd9 ts hsm.g t.flat (by omega) (qgb ht) (qcj ht h60),ob_s]
    cases hk:knA vs ps ts t.flat with
    | false=>rfl
    | true=>
      simp only [Bool.not_true,cond_false]
      obtain ⟨s,s1,s2⟩:=qeu (ts:=ts) (hgood rfl) p5
      obtain ⟨m,hm1,hm2⟩:=pickN p6 (2 ^ (prL t.flat).length) (Nat.two_pow_pos _) (by omega)
      have hm2':M29 p6 ((2 ^ (prL t.flat).length:Nat):Int)=some (m:Int):=hm2
      rw [prP_T ht hi h60 hp,ob_s]
      simp only [cond_true,u64_small (prL t.flat).length (by omega),shl_one _ hp]
      rw [if_neg (by simp),if_neg (by omega),if_neg (by omega),s1,ob_s,hm2',ob_s,qds hsm.g ht hi h60 hp hk s.1 s.2 m (by omega),ob_s]
      have hTl:=tvM_len (vs:=vs) (ps:=ps) ts t s.1 s.2 m
      exact on_l0 p0 p1 p2 p3 p4 p5 p6 hsm.g ht hi h60 hp hk s.1 s.2 (tvM vs ps ts t s.1 s.2 m) hTl (bnum (fun j=>(tvM vs ps ts t s.1 s.2 m).getD (whatP t.flat (t.kids 0) ((prL t.flat).getD j 0).toNat) false) (prL t.flat).length) (qfp _ _)
       (fun k hk'=>by
         rw [←bnum_one _ _ k hk']
         exact ⟨fun h j hj=>h j (by omega) hj,fun h j _ hj=>h j hj⟩)
       (2 ^ (prL t.flat).length) 0 1000000 (by omega) (by omega)
theorem post_all {A:Type} {P:A→Prop} (val:Fm Trm→A) (h:∀ u,P (val u)):∀ (t:Fm Trm),∀ x∈t.post val,P x:=by
 intro t
 induction t with
 | nul p=>intro x hx;rw [Fm.post,List.mem_singleton] at hx;rw [hx];exact h _
 | un p a ih=>
   intro x hx
   rw [Fm.post,List.mem_append,List.mem_singleton] at hx
   rcases hx with hx | hx
   ·exact ih x hx
   ·rw [hx];exact h _
 | bi p a c iha ihc=>
   intro x hx
   rw [Fm.post,List.mem_append,List.mem_append,List.mem_singleton] at hx
   rcases hx with (hx | hx) | hx
   ·exact iha x hx
   ·exact ihc x hx
   ·rw [hx];exact h _
section
variable (p0:List Int) (p1:Bool) (p2 p3:Int) (p4:List (List Int)) (p5 p6:List Int)
noncomputable abbrev twwR:=R5 M24 M12 M28 M18 M19 M20 M21 M26 M37 M31 M35 M33 p0 p1 p2 p3 p4 p5 p6
variable {vs:List Vrb} {ps:List Pcs} {ts:List Trn} (hg:smallG vs ps) {t:Fm Trm} (ht:WF t) (hi:isT t=true) (h60:t.size≤60) (hp:(prL t.flat).length≤6) (hk:knA vs ps ts t.flat=true)
 (w:List Stp×List Stp) (hw1:w.1.length≤6) (hw2:w.2.length≤6) (hw0:1≤w.2.length)
noncomputable def colW (vs:List Vrb) (ps:List Pcs) (ts:List Trn) (t:Fm Trm) (w:List Stp×List Stp) (i:Nat):List Bool:=t.post fun u=>semT (w.1.length+w.2.length) w.1.length (valE vs ps ts (w.1++w.2)) u i
theorem qev (i:Nat):(colW vs ps ts t w i).length=t.size:=qbd _ t
theorem qew (k i:Nat) (hk':k<t.size) (hi':i<w.1.length+w.2.length):((t.post (allV vs ps ts w)).getD k (Ty.dflt ty47)).getD i (Ty.dflt Ty.bool)=(colW vs ps ts t w i).getD k false:=by
 have e:=post_map (fun r:List Bool=>fnB r i) (allV vs ps ts w) t
 have e2:(t.post fun u=>fnB (allV vs ps ts w u) i)=colW vs ps ts t w i:=by
  unfold colW
  congr 1
  funext u
  exact qfm _ _ i hi'
 rw [e2] at e
 rw [←e]
 have hl:k<(t.post (allV vs ps ts w)).length:=by rw [qbd];exact hk'
 simp only [List.getD_eq_getElem?_getD,List.getElem?_map,List.getElem?_eq_getElem hl,Option.map_some,Option.getD_some]
 unfold fnB
 rw [List.getD_eq_getElem?_getD]
theorem allW_len (k:Nat) (hk':k<t.size):((t.post (allV vs ps ts w)).getD k (Ty.dflt ty47)).length=w.1.length+w.2.length:=
 post_all (P:=fun r:List Bool=>r.length=w.1.length+w.2.length) (allV vs ps ts w) (fun u=>qc4 _ _) t _ (qba (by rw [qbd];exact hk') _)
noncomputable def maskW (vs:List Vrb) (ps:List Pcs) (ts:List Trn) (t:Fm Trm) (w:List Stp×List Stp) (j:Nat):Nat→Nat:=bnum fun k=>(colW vs ps ts t w j).getD (whatP t.flat (t.kids 0) ((prL t.flat).getD k 0).toNat) false
theorem qex (j k:Nat):maskW vs ps ts t w j k<2 ^ k:=qfp _ _
include hi ht hw0 in
theorem tvM_col (i:Nat) (hi':i<w.1.length+w.2.length):tvM vs ps ts t ((w.1++w.2).getD i (Ty.dflt ty68)).1.1 ((w.1++w.2).getD i (Ty.dflt ty68)).1.2 (maskW vs ps ts t w (nx (w.1.length+w.2.length) w.1.length i) (prL t.flat).length)=colW vs ps ts t w i:=
 (column ht hi (w.1.length+w.2.length) w.1.length (by omega) (valE vs ps ts (w.1++w.2)) i hi' _ (fun j hj=>qdr _ _ j hj)).symm
section
variable (rows:List (List Bool)) (hrows:rows=t.post (allV vs ps ts w)) (n:Nat) (hn:n=w.1.length+w.2.length)
include hg ht hi h60 hp hk hw1 hw2 hw0 hrows hn
omit hg hk in
theorem tw_l3 (i bh mask:Nat) (hi':i<n) (hbh:bh=nx n w.1.length i) (hmask:mask=maskW vs ps ts t w bh (prL t.flat).length) (L:List Int) (hLl:L.length≤64) (hL:(mask:Int)∈L↔(colW vs ps ts t w i).getD (t.size-1) false=true) (D:Nat)
  (hnx:∀ m,D<m→twwR p0 p1 p2 p3 p4 p5 p6 m (.l0 t.flat (n:Int) (n:Int) ((i+1:Nat):Int) vs ps ts w.1 w.2 rows (w.1++w.2) (prL t.flat) (t.kids 0))=some true) :
  ∀ (r k m:Nat) (fl:Bool),k+r=L.length→D+r+1<m→(fl=true↔(mask:Int)∈L.take k)→twwR p0 p1 p2 p3 p4 p5 p6 m (.l3 t.flat (n:Int) (i:Int) (mask:Int) fl (n:Int) (i:Int) (L.length:Nat) (k:Int) vs ps ts w.1 w.2 rows (w.1++w.2) (prL t.flat) (t.kids 0) (colW vs ps ts t w bh) L)=some true
 | r,k,0,fl,hk',hm,hfl=>by omega
 | 0,k,m+1,fl,hk',hm,hfl=>by
   have hs:=t.size_pos
   have hb:w.1.length<n:=by omega
   have hpl:=qbd (allV vs ps ts w) t
   have hw:IntKind.wrap IntKind.i64 ((t.size:Int)-1)=((t.size-1:Nat):Int):=by rw [wrap64 (by omega) (by omega)];omega
   have hml:=qex (vs:=vs) (ps:=ps) (ts:=ts) (t:=t) w bh (prL t.flat).length
   rw [←hmask] at hml
   obtain ⟨b,b1,b2⟩:=FitsP_ok ht hi h60 hp mask hml (colW vs ps ts t w bh) (qev w bh)
   have hb':b=true:=b2.2 fun j _ hj=>by rw [hmask];show _=tb (bnum _ _) j;rw [qdr _ _ j hj]
   rw [hb'] at b1
   have hfl':(!fl == (colW vs ps ts t w i).getD (t.size-1) false)=false:=by
    rw [List.take_of_length_le (by omega)] at hfl
    have:=hfl.trans hL
    cases fl<;>cases hc:(colW vs ps ts t w i).getD (t.size-1) false<;>simp_all
   show T5 Ops.std _ _ _ _ _ _ _ _ _ _ _ _ p0 p1 p2 p3 p4 p5 p6 _ some _=_
   unfold T5
   simp only [qag,qal,qab,qad,b1,ob_s,Bool.not_true,cond_false,hrows,hpl,hw,allW_len (vs:=vs) (ps:=ps) (ts:=ts) (t:=t) w (t.size-1) (by omega),qew (vs:=vs) (ps:=ps) (ts:=ts) (t:=t) w (t.size-1) i (by omega) (by omega),hfl',show IntKind.wrap IntKind.i64 ((i:Int)+1)=((i+1:Nat):Int) from qah (by omega)]
   rw [if_neg (by omega),if_pos (by omega),if_pos (by omega),←hrows]
   exact hnx m (by omega)
 | r+1,k,m+1,fl,hk',hm,hfl=>by
   have ih:=tw_l3 i bh mask hi' hbh hmask L hLl hL D hnx r (k+1) m
   have e:L.take (k+1)=L.take k++[L.getD k (Ty.dflt ty3)]:=by
    rw [List.take_succ_eq_append_getElem (by omega),List.getD_eq_getElem?_getD,List.getElem?_eq_getElem (by omega)];rfl
   show T5 Ops.std _ _ _ _ _ _ _ _ _ _ _ _ p0 p1 p2 p3 p4 p5 p6 _ some _=_
   unfold T5
   simp only [qag,qaq,qal,qab,qad,show IntKind.wrap IntKind.i64 ((k:Int)+1)=((k+1:Nat):Int) from qah (by omega)]
   rw [if_pos (by omega),if_pos (by omega)]
   cases hf:fl with
   | true=>exact ih true (by omega) (by omega) ⟨fun _=>by rw [e];exact List.mem_append_left _ (hfl.1 hf),fun _=>rfl⟩
   | false=>
     refine ih _ (by omega) (by omega) ?_
     rw [e,List.mem_append,List.mem_singleton,decide_eq_true_iff]
     have hno:¬ (mask:Int)∈L.take k:=fun h=>by have:=hfl.2 h;rw [hf] at this;cases this
     exact ⟨fun h=>.inr h.symm,fun h=>(h.resolve_left hno).symm⟩
theorem tw_l2 (i bh mask:Nat) (hi':i<n) (hbh:bh=nx n w.1.length i) (hmask:mask=maskW vs ps ts t w bh (prL t.flat).length) (D:Nat)
  (hnx:∀ m,D<m→twwR p0 p1 p2 p3 p4 p5 p6 m (.l0 t.flat (n:Int) (n:Int) ((i+1:Nat):Int) vs ps ts w.1 w.2 rows (w.1++w.2) (prL t.flat) (t.kids 0))=some true) :
  ∀ (r k m:Nat),k+r=t.size→D+r+70<m→twwR p0 p1 p2 p3 p4 p5 p6 m (.l2 t.flat (n:Int) (i:Int) (bh:Int) (mask:Int) (n:Int) (i:Int) ((t.size:Nat):Int) (k:Int) vs ps ts w.1 w.2 rows (w.1++w.2) (prL t.flat) (t.kids 0) (colW vs ps ts t w i) ((colW vs ps ts t w bh).take k))=some true
 | r,k,0,hk',hm=>by omega
 | 0,k,m+1,hk',hm=>by
   have h64:=qbs hp
   have hle:=mkF_le (hasM vs ps ts t ((w.1++w.2).getD i (Ty.dflt ty68)).1.1 ((w.1++w.2).getD i (Ty.dflt ty68)).1.2) (2 ^ (prL t.flat).length) 0
   have hwl:(w.1++w.2).length=n:=by rw [hn];simp
   have hml:=qex (vs:=vs) (ps:=ps) (ts:=ts) (t:=t) w bh (prL t.flat).length
   rw [←hmask] at hml
   have hcl:=qev (vs:=vs) (ps:=ps) (ts:=ts) (t:=t) w bh
   have hcol:=tvM_col (vs:=vs) (ps:=ps) (ts:=ts) ht hi w hw0 i (by omega)
   rw [←hn,←hbh,←hmask] at hcol
   show T5 Ops.std _ _ _ _ _ _ _ _ _ _ _ _ p0 p1 p2 p3 p4 p5 p6 _ some _=_
   unfold T5
   simp only [qag,qal,qab,qad,hwl]
   rw [if_neg (by omega),if_pos (by omega),MasksP_ok hg ht hi h60 hp hk,ob_s,List.take_of_length_le (by omega)]
   refine tw_l3 p0 p1 p2 p3 p4 p5 p6 ht hi h60 hp w hw1 hw2 hw0 rows hrows n hn i bh mask hi' hbh hmask _ (by show (mkF _ _ _).length≤64;omega) ?_ D hnx _ 0 m false (Nat.zero_add _) (by show D+(mkF _ _ _).length+1<m;omega) (by simp)
   unfold masksL
   rw [mkF_mem]
   have hh:hasM vs ps ts t ((w.1++w.2).getD i (Ty.dflt ty68)).1.1 ((w.1++w.2).getD i (Ty.dflt ty68)).1.2 mask=(colW vs ps ts t w i).getD (t.size-1) false:=by
    unfold hasM;rw [hcol]
   constructor
   ·rintro ⟨j,e,_,_,h⟩
    have:mask=j:=by omega
    rw [←hh,this];exact h
   ·intro h
    exact ⟨mask,rfl,by omega,by omega,by rw [hh];exact h⟩
 | r+1,k,m+1,hk',hm=>by
   have ih:=tw_l2 i bh mask hi' hbh hmask D hnx r (k+1) m (by omega) (by omega)
   have hfl:=t.flat_len
   have hpl:=qbd (allV vs ps ts w) t
   have hci:=qev (vs:=vs) (ps:=ps) (ts:=ts) (t:=t) w i
   have hcb:=qev (vs:=vs) (ps:=ps) (ts:=ts) (t:=t) w bh
   have hb:bh<n:=by rw [hbh];exact nx_lt n _ (by omega) hi'
   have e:(colW vs ps ts t w bh).take (k+1)=(colW vs ps ts t w bh).take k++[(colW vs ps ts t w bh).getD k false]:=by
    rw [List.take_succ_eq_append_getElem (by omega),List.getD_eq_getElem?_getD,List.getElem?_eq_getElem (by omega)];rfl
   have hgi:(colW vs ps ts t w i).getD k (Ty.dflt ty4)=(colW vs ps ts t w i).getD k false:=rfl
   rw [e] at ih
   show T5 Ops.std _ _ _ _ _ _ _ _ _ _ _ _ p0 p1 p2 p3 p4 p5 p6 _ some _=_
   unfold T5
   simp only [qag,qaq,qal,qat,qa4,qab,qad,hci,hfl,hrows,hpl,allW_len (vs:=vs) (ps:=ps) (ts:=ts) (t:=t) w k (by omega),qew (vs:=vs) (ps:=ps) (ts:=ts) (t:=t) w k i (by omega) (by omega),qew (vs:=vs) (ps:=ps) (ts:=ts) (t:=t) w k bh (by omega) (by omega),hgi,beq_self_eq_true,Bool.not_true,cond_false,mt,List.length_cons,List.length_nil,List.length_take,hcb,show IntKind.wrap IntKind.i64 ((k:Int)+1)=((k+1:Nat):Int) from qah (by omega)]
   rw [if_pos (by omega),if_neg (by simp),if_pos (by omega),if_pos (by omega),if_pos (by omega),if_pos (by omega),if_pos (by omega),if_pos (by omega),←hrows]
   exact ih
theorem tw_l1 (i bh:Nat) (hi':i<n) (hbh:bh=nx n w.1.length i) (D:Nat)
  (hnx:∀ m,D<m→twwR p0 p1 p2 p3 p4 p5 p6 m (.l0 t.flat (n:Int) (n:Int) ((i+1:Nat):Int) vs ps ts w.1 w.2 rows (w.1++w.2) (prL t.flat) (t.kids 0))=some true) :
  ∀ (r k m:Nat),k+r=(prL t.flat).length→D+2*r+140<m→twwR p0 p1 p2 p3 p4 p5 p6 m (.l1 t.flat (n:Int) (i:Int) (bh:Int) ((maskW vs ps ts t w bh k:Nat):Int) (n:Int) (i:Int) ((prL t.flat).length:Nat) (k:Int) vs ps ts w.1 w.2 rows (w.1++w.2) (prL t.flat) (t.kids 0))=some true
 | r,k,0,hk',hm=>by omega
 | 0,k,m+1,hk',hm=>by
   have hwl:(w.1++w.2).length=n:=by rw [hn];simp
   have hpl:=qbd (allV vs ps ts w) t
   have ek:k=(prL t.flat).length:=by omega
   have hml:=qex (vs:=vs) (ps:=ps) (ts:=ts) (t:=t) w bh (prL t.flat).length
   have hcol:=tvM_col (vs:=vs) (ps:=ps) (ts:=ts) ht hi w hw0 i (by omega)
   rw [←hn,←hbh] at hcol
   show T5 Ops.std _ _ _ _ _ _ _ _ _ _ _ _ p0 p1 p2 p3 p4 p5 p6 _ some _=_
   unfold T5
   subst ek
   simp only [qag,qal,qab,qad,hwl,mt]
   rw [if_neg (by omega),if_pos (by omega),qds hg ht hi h60 hp hk _ _ _ hml,ob_s,hcol,hrows,hpl,←hrows]
   exact tw_l2 p0 p1 p2 p3 p4 p5 p6 hg ht hi h60 hp hk w hw1 hw2 hw0 rows hrows n hn i bh _ hi' hbh rfl D hnx t.size 0 m (by omega) (by omega)
 | r+1,k,m+1,hk',hm=>by
   obtain ⟨m,rfl⟩:∃ m',m=m'+1:=⟨m-1,by omega⟩
   have ih:=tw_l1 i bh hi' hbh D hnx r (k+1) m (by omega) (by omega)
   have hfl:=t.flat_len
   have hkl:=t.kids_len 0
   have hpl:=qbd (allV vs ps ts w) t
   have hb:bh<n:=by rw [hbh];exact nx_lt n _ (by omega) hi'
   have h64:=qbs hp
   have hml:=qex (vs:=vs) (ps:=ps) (ts:=ts) (t:=t) w bh k
   have hpk:2 ^ k≤64:=qbs (show k≤6 by omega)
   obtain ⟨x,hx,hxl,hxp⟩:=prL_at (t:=t) k (by omega)
   have hx':(prL t.flat).getD k (Ty.dflt ty3)=(x:Int):=hx
   have hwt:=whatP_lt ht x hxl
   have estep:maskW vs ps ts t w bh (k+1)=maskW vs ps ts t w bh k+if (colW vs ps ts t w bh).getD (whatP t.flat (t.kids 0) x) false=true then 2 ^ k else 0:=by
    unfold maskW
    simp only [bnum,hx,qad]
   have h30:twwR p0 p1 p2 p3 p4 p5 p6 (m+1) (.l1030 t.flat (n:Int) (i:Int) (bh:Int) ((maskW vs ps ts t w bh k:Nat):Int) (k:Int) ((whatP t.flat (t.kids 0) x:Nat):Int) (n:Int) (i:Int) ((prL t.flat).length:Nat) (k:Int) vs ps ts w.1 w.2 rows (w.1++w.2) (prL t.flat) (t.kids 0))=some true:=by
    show T5 Ops.std _ _ _ _ _ _ _ _ _ _ _ _ p0 p1 p2 p3 p4 p5 p6 _ some _=_
    unfold T5
    simp only [qag,qal,qab,qad,cond_true,hrows,hpl,allW_len (vs:=vs) (ps:=ps) (ts:=ts) (t:=t) w _ hwt,qew (vs:=vs) (ps:=ps) (ts:=ts) (t:=t) w _ bh hwt (show bh<w.1.length+w.2.length by omega),u64_small k (by omega),shl_one k (by omega),show IntKind.wrap IntKind.i64 ((k:Int)+1)=((k+1:Nat):Int) from qah (by omega)]
    rw [if_pos (by omega),if_pos (by omega),if_neg (by omega),←hrows]
    rw [estep] at ih
    cases hc:(colW vs ps ts t w bh).getD (whatP t.flat (t.kids 0) x) false with
    | true=>
      rw [hc,if_pos rfl] at ih
      have hw2':IntKind.wrap IntKind.i64 (((maskW vs ps ts t w bh k:Nat):Int)+((2 ^ k:Nat):Int))=((maskW vs ps ts t w bh k+2 ^ k:Nat):Int):=by rw [wrap64 (by omega) (by omega)];omega
      simp only [cond_true,hw2']
      exact ih
    | false=>
      rw [hc,if_neg (by simp),Nat.add_zero] at ih
      exact ih
   have cp:(0:Int)≤(k:Int)∧(k:Int)<((prL t.flat).length:Int):=by omega
   have cx:(0:Int)≤(x:Int)∧(x:Int)<(t.flat.length:Int):=by omega
   have cK:(0:Int)≤(x:Int)∧(x:Int)<((t.kids 0).length:Int):=by omega
   show T5 Ops.std _ _ _ _ _ _ _ _ _ _ _ _ p0 p1 p2 p3 p4 p5 p6 _ some _=_
   unfold T5
   simp only [qag,qaz,qaq,qal,qab,qad,if_pos cp,if_pos cp.2,hx',if_pos cx,if_pos cK]
   rw [if_neg (by omega),if_neg (by omega)]
   by_cases h8:(t.flat.getD x (Ty.dflt ty66)).1=8
   ·obtain ⟨y,hy,k2,k3⟩:=un_kid ht x hxl h8
    have g0:∀ d,[(y:Int)].getD (Int.toNat 0) d=(y:Int):=fun d=>rfl
    have ew:whatP t.flat (t.kids 0) x=y:=by unfold whatP;rw [if_pos h8,k3]
    rw [ew] at h30
    rw [if_pos h8]
    simp only [k2,List.length_cons,List.length_nil,g0]
    rw [if_pos (by omega)]
    exact h30
   ·have ew:whatP t.flat (t.kids 0) x=x:=by unfold whatP;rw [if_neg h8]
    rw [ew] at h30
    rw [if_neg h8]
    exact h30
theorem tw_l0:∀ (r i m:Nat),i+r=n→400*r<m→twwR p0 p1 p2 p3 p4 p5 p6 m (.l0 t.flat (n:Int) (n:Int) (i:Int) vs ps ts w.1 w.2 rows (w.1++w.2) (prL t.flat) (t.kids 0))=some true
 | r,i,0,hi',hm=>by omega
 | 0,i,m+1,hi',hm=>by
   show T5 Ops.std _ _ _ _ _ _ _ _ _ _ _ _ p0 p1 p2 p3 p4 p5 p6 _ some _=_
   unfold T5
   simp only [qag,qab]
   rw [if_neg (by omega)]
 | r+1,i,m+1,hi',hm=>by
   have ih:=fun m hm=>tw_l0 r (i+1) m (by omega) hm
   have h1:=tw_l1 p0 p1 p2 p3 p4 p5 p6 hg ht hi h60 hp hk w hw1 hw2 hw0 rows hrows n hn i (nx n w.1.length i) (by omega) rfl (400*r) ih (prL t.flat).length 0 m (by omega) (by omega)
   show T5 Ops.std _ _ _ _ _ _ _ _ _ _ _ _ p0 p1 p2 p3 p4 p5 p6 _ some _=_
   unfold T5
   simp only [qag,qaq,qab,show IntKind.wrap IntKind.i64 ((i:Int)+1)=((i+1:Nat):Int) from qah (by omega)]
   rw [if_pos (by omega)]
   unfold nx at h1
   by_cases h:i+1=n
   ·rw [if_pos h] at h1
    rw [if_pos (by omega)]
    exact h1
   ·rw [if_neg h] at h1
    rw [if_neg (by omega)]
    exact h1
end
end
theorem plainTableauWords (p0:List Int) (p1:Bool) (p2 p3:Int) (p4:List (List Int)) (p5 p6:List Int) (w0:Ty.wf ty22 p0) (w1:True) (w2:Ty.wf ty3 p2) (w3:Ty.wf ty3 p3) (w4:Ty.wf ty23 p4) (w5:Ty.wf ty22 p5) (w6:Ty.wf ty22 p6):M5 p0 p1 p2 p3 p4 p5 p6=some true:=by
 show T5 Ops.std M24 M12 M28 M18 M19 M20 M21 M26 M37 M31 M35 M33 p0 p1 p2 p3 p4 p5 p6 (twwR p0 p1 p2 p3 p4 p5 p6 1000000) some none=_
 unfold T5
 obtain ⟨f,hf,hf2⟩:=few_ok p0 p1
 obtain ⟨vs,ps,ts,hm,hsm⟩:=Model_ok p2 p3 p4
 rw [known17,hm,hf]
 simp only [ob_s,Bool.not_true,cond_false,qaq,qab]
 have kk:(ob M24 fun y=>some y)=some true:=by rw [known17,ob_s]
 rcases hf2 with h0 | ⟨t,ht,hi,h60,hp,rfl⟩
 ·rw [h0,if_pos (by simp)]
 ·have hfl:=t.flat_len
  have hs1:=t.size_pos
  rw [if_neg (by omega)]
  obtain ⟨r,hr,hgood⟩:=qck (vs:=vs) (ps:=ps) (ts:=ts) hsm
  rw [hr,ob_s]
  cases r with
  | false=>rfl
  | true=>
    simp only [Bool.not_true,cond_false]
    rw [qd9 ts hsm.g t.flat (by omega) (qgb ht) (qcj ht h60),ob_s]
    cases hk:knA vs ps ts t.flat with
    | false=>rfl
    | true=>
      simp only [Bool.not_true,cond_false]
      obtain ⟨w,hw,hok⟩:=Word_ok (ts:=ts) (hgood rfl) p5 p6
      obtain ⟨w1,w2,w3,w4,w5⟩:=id hok
      have hpl:=qbd (allV vs ps ts w) t
      have e0:∀ z:List Stp,z=[]→z++w.1++w.2=w.1++w.2:=fun z hz=>by rw [hz];rfl
      show T5 Ops.std _ _ _ _ _ _ _ _ _ _ _ _ p0 p1 p2 p3 p4 p5 p6 (twwR p0 p1 p2 p3 p4 p5 p6 999999) some _=_
      unfold T5
      simp only [hw,ob_s,qat,qaq,qa4,qab,mt]
      rw [All_ok ts hr (hgood rfl) hsm.g t ht h60 hk w hok,ob_s,if_pos (by simp;omega),if_pos (by simp;omega),prP_T ht hi h60 hp,ob_s,if_neg (by simp),hpl,if_neg (by omega),qcu rightE ht h60 (qcj ht h60),ob_s,e0 [] rfl]
      have hl:(w.1++w.2).length=w.1.length+w.2.length:=by simp
      rw [hl]
      exact tw_l0 p0 p1 p2 p3 p4 p5 p6 hsm.g ht hi h60 hp hk w w1 w3 w2 _ rfl (w.1.length+w.2.length) rfl (w.1.length+w.2.length) 0 999999 (by omega) (by omega)
end Go.Proofs.YtccnmhdgghjgoaaGreatDoor.Av
