/- The plain law of TableauTells: what its twin computes answers true. Conditions: none. -/
import Derived.Test.YtccnmhdgghjgoaaGreatDoorPTableauTellsa
set_option linter.unusedSimpArgs false
set_option linter.unusedVariables false
set_option maxRecDepth 100000
namespace Go.Proofs.YtccnmhdgghjgoaaGreatDoor.Av
open Go
theorem qey {l:List (List UInt8)} {n:Nat} (h:∀ y∈l,y.length≤n) (k:Nat):(l.getD k []).length≤n:=by
 rw [List.getD_eq_getElem?_getD]
 cases hk:l[k]? with
 | none=>simp
 | some x=>exact h x (List.mem_of_getElem? hk)
def eB:Nat→Nat
 | 0=>10
 | h+1=>2*eB h+10
theorem eB_le:∀ h,h≤4→eB h≤310∧fA h≤93:=by
 intro h hh
 match h with
 | 0 | 1 | 2 | 3 | 4=>decide
noncomputable abbrev nxt:=M94
theorem qa1 (l:List Int) (a:Nat) (ha:a≤1000) (n:Nat) (m:Int) (hm:m=(n:Nat)) (h0:0<n) (h1:n<1000):∃ (k a':Nat),k<n∧a≤a'∧a'≤a+1∧M94 m l (a:Nat)=some ((k:Int),l,(a':Int)):=by
 subst hm
 exact qcq l 0 a ha n h0 h1
theorem expr_k (l:List Int) (deep:Int) (d:Nat) (l0:List Int) (a0:Int) (B A:Nat) (hB:B≤310) (hA:A≤93) (k:Nat) (hk:k<20) (V:Nat) (hV:V≤900) (hrec:k<14→∀ a:Nat,a≤V→FOk l (Rec153 d (IntKind.wrap IntKind.i64 (deep+1)) l a) a B A) (a:Nat) (ha:a+A+5≤V) (n:Nat) :
  FOk l (R153 M94 (Rec153 d) deep l0 a0 (n+1) (.l1004 k l a)) a (2*B+10) (2*A+2):=by
 show FOk l (T153 Ops.std M94 (Rec153 d) deep l0 a0 _ some _) a _ _
 unfold T153
 simp only [qad,qak,qag,qal,qaa,mt]
 by_cases h10:(k:Int)<10
 ·obtain ⟨s,a1,e1,e2,e3,e4⟩:=hrec (by omega) a (by omega)
  obtain ⟨s2,a2,f1,f2,f3,f4⟩:=hrec (by omega) a1 (by omega)
  rw [if_pos h10,e1,ob_s]
  dsimp only
  rw [f1,ob_s]
  dsimp only
  obtain ⟨j,a3,g1,g2,g3,g4⟩:=qa1 l a2 (by omega) 11 11 rfl (by omega) (by omega)
  rw [g4,ob_s]
  dsimp only
  rw [if_pos (by omega)]
  obtain ⟨i,a4,i1,i2,i3,i4⟩:=qa1 l a3 (by omega) 2 2 rfl (by omega) (by omega)
  rw [i4,ob_s]
  dsimp only
  have hlen:=qar (n:=2) (l:=[[43],[45],[42],[60],[60,61],[61,61],[33,61],[38,38],[124,124],[62],[62,61]]) rfl (Int.toNat (j:Int))
  generalize ([[43],[45],[42],[60],[60,61],[61,61],[33,61],[38,38],[124,124],[62],[62,61]]:List (List UInt8)).getD (Int.toNat (j:Int)) []=x at hlen ⊢
  simp only [List.length_append,List.length_cons,List.length_nil]
  by_cases hi:(i:Int)=0
  ·rw [if_pos hi,if_pos (by omega),if_pos (by omega),if_pos (by omega),if_pos (by omega),if_pos (by omega),if_pos (by omega)]
   exact ⟨_,a4,rfl,by simp;omega,by omega,by omega⟩
  ·rw [if_neg hi,if_pos (by omega),if_pos (by omega),if_pos (by omega),if_pos (by omega),if_pos (by omega),if_pos (by omega)]
   exact ⟨_,a4,rfl,by simp;omega,by omega,by omega⟩
 ·rw [if_neg h10]
  by_cases h:(k:Int)=10
  ·obtain ⟨s,a1,e1,e2,e3,e4⟩:=hrec (by omega) a (by omega)
   rw [if_pos h,e1,ob_s]
   dsimp only
   simp only [List.length_append,List.length_cons,List.length_nil]
   rw [if_pos (by omega),if_pos (by omega)]
   exact ⟨_,a1,rfl,by simp;omega,by omega,by omega⟩
  ·rw [if_neg h]
   clear h
   by_cases h:(k:Int)=11
   ·obtain ⟨s,a1,e1,e2,e3,e4⟩:=hrec (by omega) a (by omega)
    rw [if_pos h,e1,ob_s]
    dsimp only
    simp only [List.length_append,List.length_cons,List.length_nil]
    rw [if_pos (by omega),if_pos (by omega)]
    exact ⟨_,a1,rfl,by simp;omega,by omega,by omega⟩
   ·rw [if_neg h]
    clear h
    by_cases h:(k:Int)=12
    ·obtain ⟨s,a1,e1,e2,e3,e4⟩:=hrec (by omega) a (by omega)
     obtain ⟨s2,a2,f1,f2,f3,f4⟩:=hrec (by omega) a1 (by omega)
     rw [if_pos h,e1,ob_s]
     dsimp only
     rw [if_pos (by omega),f1,ob_s]
     dsimp only
     simp only [List.length_append,List.length_cons,List.length_nil]
     rw [if_pos (by omega)]
     exact ⟨_,a2,rfl,by simp;omega,by omega,by omega⟩
    ·rw [if_neg h]
     clear h
     by_cases h:(k:Int)=13
     ·obtain ⟨s,a1,e1,e2,e3,e4⟩:=hrec (by omega) a (by omega)
      rw [if_pos h,e1,ob_s]
      dsimp only
      rw [if_pos (by omega)]
      exact ⟨_,a1,rfl,by simp;omega,by omega,by omega⟩
     ·rw [if_neg h]
      clear h hrec
      have hnum:FOk l (ob (M94 4 l a) fun y0=>if (0:Int)≤Prod.fst y0∧Prod.fst y0<(4:Int) then some (([[48],[49],[50],[48,48,55]]:List (List UInt8)).getD (Int.toNat (Prod.fst y0)) [],Prod.fst (Prod.snd y0),Prod.snd (Prod.snd y0)) else none) a (2*B+10) (2*A+2):=by
       obtain ⟨j,a3,g1,g2,g3,g4⟩:=qa1 l a (by omega) 4 4 rfl (by omega) (by omega)
       rw [g4,ob_s]
       dsimp only
       rw [if_pos (by omega)]
       have hlen:=qar (n:=3) (l:=[[48],[49],[50],[48,48,55]]) rfl (Int.toNat (j:Int))
       exact ⟨_,a3,rfl,by omega,by omega,by omega⟩
      by_cases h:(k:Int)=14
      ·rw [if_pos h];exact hnum
      ·rw [if_neg h]
       clear h
       by_cases h:(k:Int)=15
       ·rw [if_pos h];exact hnum
       ·rw [if_neg h]
        clear h hnum
        by_cases h:(k:Int)=16
        ·rw [if_pos h]
         obtain ⟨j,a3,g1,g2,g3,g4⟩:=qa1 l a (by omega) 2 2 rfl (by omega) (by omega)
         obtain ⟨i,a4,i1,i2,i3,i4⟩:=qa1 l a3 (by omega) 3 3 rfl (by omega) (by omega)
         rw [g4,ob_s]
         dsimp only
         have hlen:=qar (n:=1) (l:=[[112],[113],[114]]) rfl (Int.toNat (j:Int))
         have hlen2:=qar (n:=1) (l:=[[97],[98],[99],[100]]) rfl (Int.toNat (i:Int))
         generalize ([[112],[113],[114]]:List (List UInt8)).getD (Int.toNat (j:Int)) []=x at hlen ⊢
         rw [if_pos (by omega),if_pos (by omega),i4,ob_s]
         dsimp only
         generalize ([[97],[98],[99],[100]]:List (List UInt8)).getD (Int.toNat (i:Int)) []=y at hlen2 ⊢
         simp only [List.length_append,List.length_cons,List.length_nil]
         rw [if_pos (by omega),if_pos (by omega)]
         exact ⟨_,a4,rfl,by simp;omega,by omega,by omega⟩
        ·rw [if_neg h]
         obtain ⟨j,a3,g1,g2,g3,g4⟩:=qa1 l a (by omega) 2 2 rfl (by omega) (by omega)
         rw [g4,ob_s]
         dsimp only
         rw [if_pos (by omega)]
         have hlen:=qar (n:=1) (l:=[[120],[121],[122]]) rfl (Int.toNat (j:Int))
         exact ⟨_,a3,rfl,by omega,by omega,by omega⟩
theorem expr_h (l:List Int):∀ (h:Nat),h≤4→∀ (d:Nat),h<d→∀ (a:Nat),a≤800-150*h→FOk l (Rec153 d ((4-h:Nat):Int) l a) a (eB h) (fA h):=by
 intro h
 induction h with
 | zero=>
   intro hh d hd a ha
   obtain ⟨e,rfl⟩:∃ e,d=e+1:=⟨d-1,by omega⟩
   show FOk l (T153 Ops.std M94 (Rec153 e) ((4-0:Nat):Int) l a (R153 M94 (Rec153 e) ((4-0:Nat):Int) l a 1000000) some none) a _ _
   unfold T153
   obtain ⟨k,a1,e1,e2,e3,e4⟩:=qa1 l a (by omega) 20 20 rfl (by omega) (by omega)
   rw [e4,ob_s]
   simp only [qad,qak,qaa]
   rw [if_pos (by omega),if_neg (by omega)]
   have ht:Int.tmod (k:Int) 6=((k % 6:Nat):Int):=by rw [show (6:Int)=((6:Nat):Int) from rfl,←Int.ofNat_tmod]
   rw [ht,show IntKind.wrap IntKind.i64 (14+((k % 6:Nat):Int))=((14+k % 6:Nat):Int) by rw [wrap64 (by omega) (by omega)];omega]
   have:=expr_k l ((4-0:Nat):Int) e l (a:Int) 0 0 (by omega) (by omega) (14+k % 6) (by omega) 900 (by omega) (fun h=>by omega) a1 (by omega) 999999
   obtain ⟨s,a',g1,g2,g3,g4⟩:=this
   exact ⟨s,a',g1,by simp [eB];omega,by omega,by simp [fA];omega⟩
 | succ h ih=>
   intro hh d hd a ha
   obtain ⟨e,rfl⟩:∃ e,d=e+1:=⟨d-1,by omega⟩
   have hb:=eB_le h (by omega)
   have hb3:fA h≤45:=by
    have:h≤3:=by omega
    match h,this with
    | 0,_ | 1,_ | 2,_ | 3,_=>decide
   show FOk l (T153 Ops.std M94 (Rec153 e) ((4-(h+1):Nat):Int) l a (R153 M94 (Rec153 e) ((4-(h+1):Nat):Int) l a 1000000) some none) a _ _
   unfold T153
   obtain ⟨k,a1,e1,e2,e3,e4⟩:=qa1 l a (by omega) 20 20 rfl (by omega) (by omega)
   rw [e4,ob_s]
   simp only [qad,qak,qaa]
   rw [if_neg (by omega)]
   have hdeep:IntKind.wrap IntKind.i64 (((4-(h+1):Nat):Int)+1)=((4-h:Nat):Int):=by rw [wrap64 (by omega) (by omega)];omega
   have hrec:∀ a:Nat,a≤800-150*h→FOk l (Rec153 e (IntKind.wrap IntKind.i64 (((4-(h+1):Nat):Int)+1)) l a) a (eB h) (fA h):=fun a ha=>by
    rw [hdeep];exact ih (by omega) e (by omega) a ha
   have step:=fun (k:Nat) (hk:k<20)=>expr_k l ((4-(h+1):Nat):Int) e l (a:Int) (eB h) (fA h) (by omega) (by omega) k hk (800-150*h) (by omega) (fun _=>hrec) a1 (by omega) 999999
   have fin:∀ o,FOk l o a1 (2*eB h+10) (2*fA h+2)→FOk l o a (eB (h+1)) (fA (h+1)):=fun o ho=>by
    obtain ⟨s,a',g1,g2,g3,g4⟩:=ho
    exact ⟨s,a',g1,by simp only [eB];omega,by omega,by simp only [fA];omega⟩
   have ht:Int.tmod (k:Int) 6=((k % 6:Nat):Int):=by rw [show (6:Int)=((6:Nat):Int) from rfl,←Int.ofNat_tmod]
   split
   ·rw [if_neg (by omega),ht,show IntKind.wrap IntKind.i64 (14+((k % 6:Nat):Int))=((14+k % 6:Nat):Int) by rw [wrap64 (by omega) (by omega)];omega]
    exact fin _ (step (14+k % 6) (by omega))
   ·exact fin _ (step k e1)
theorem expr_ok (l:List Int) (h:Nat) (hh:h≤4) (m:Int) (hm:m=((4-h:Nat):Int)) (a:Nat) (ha:a≤200):FOk l (M153 m l a) a 310 93:=by
 subst hm
 have hb:=eB_le h hh
 obtain ⟨s,a',e1,e2,e3,e4⟩:=expr_h l h hh 1000000 (by omega) a (by omega)
 exact ⟨s,a',e1,by omega,e3,by omega⟩
theorem guard_ok (l:List Int) (a:Nat) (ha:a≤200):FOk l (M152 l a) a 10 2:=by
 show FOk l (T152 Ops.std M94 l a some) a _ _
 unfold T152
 simp only [qad,qak,qag,qal,qaa,mt]
 obtain ⟨j,a1,g1,g2,g3,g4⟩:=qa1 l a (by omega) 2 2 rfl (by omega) (by omega)
 obtain ⟨i,a2,i1,i2,i3,i4⟩:=qa1 l a1 (by omega) 9 9 rfl (by omega) (by omega)
 rw [g4,ob_s]
 dsimp only
 have hlen:=qar (n:=1) (l:=[[120],[121],[122]]) rfl (Int.toNat (j:Int))
 generalize ([[120],[121],[122]]:List (List UInt8)).getD (Int.toNat (j:Int)) []=x at hlen ⊢
 rw [if_pos (by omega),if_pos (by omega),if_pos (by omega),if_pos (by omega),if_pos (by omega),i4,ob_s]
 dsimp only
 rw [if_pos (by omega)]
 refine ⟨_,a2,rfl,qey (fun y hy=>?_) _,by omega,by omega⟩
 simp only [List.mem_cons,List.not_mem_nil,or_false] at hy
 rcases hy with rfl | rfl | rfl | rfl | rfl | rfl | rfl | rfl | rfl<;>(try simp)<;>omega
theorem small_ok (l:List Int) (a:Nat) (ha:a≤200):FOk l (M154 l a) a 10 3:=by
 show FOk l (T154 Ops.std M94 l a some) a _ _
 unfold T154
 simp only [qad,qak,qag,qal,qaa,mt]
 obtain ⟨j,a1,g1,g2,g3,g4⟩:=qa1 l a (by omega) 2 2 rfl (by omega) (by omega)
 obtain ⟨i,a2,i1,i2,i3,i4⟩:=qa1 l a1 (by omega) 2 2 rfl (by omega) (by omega)
 obtain ⟨e,a3,e1,e2,e3,e4⟩:=qa1 l a2 (by omega) 8 8 rfl (by omega) (by omega)
 rw [g4,ob_s]
 dsimp only
 have hlen:=qar (n:=1) (l:=[[120],[121],[122]]) rfl (Int.toNat (j:Int))
 have hlen2:=qar (n:=1) (l:=[[120],[121],[122]]) rfl (Int.toNat (i:Int))
 generalize ([[120],[121],[122]]:List (List UInt8)).getD (Int.toNat (j:Int)) []=x at hlen ⊢
 rw [if_pos (by omega),if_pos (by omega),if_pos (by omega),if_pos (by omega),if_pos (by omega),i4,ob_s]
 dsimp only
 generalize ([[120],[121],[122]]:List (List UInt8)).getD (Int.toNat (i:Int)) []=x2 at hlen2 ⊢
 rw [if_pos (by omega),e4,ob_s]
 dsimp only
 rw [if_pos (by omega)]
 refine ⟨_,a3,rfl,qey (fun y hy=>?_) _,by omega,by omega⟩
 simp only [List.mem_cons,List.not_mem_nil,or_false] at hy
 rcases hy with rfl | rfl | rfl | rfl | rfl | rfl | rfl | rfl<;>(try simp)<;>omega
theorem qfr (l p0:List Int) (p1:Int) (k:Nat) (hk:k≤2):∀ (t i n:Nat) (s:List UInt8) (a:Nat),i+t=k→t<n→s.length≤340+20*i→a≤120+10*i→
  ∃ s',R92 M94 M152 M153 M154 p0 p1 n (.l0 s k i l a)=some s'∧s'.length≤400
 | t,i,0,s,a,hi,hn,hs,ha=>by omega
 | 0,i,n+1,s,a,hi,hn,hs,ha=>by
   show ∃ s',T92 Ops.std _ _ _ _ p0 p1 _ some _=some s'∧_
   unfold T92
   simp only [qad,qaa]
   rw [if_neg (by omega)]
   exact ⟨s,rfl,by omega⟩
 | t+1,i,n+1,s,a,hi,hn,hs,ha=>by
   have ih:=qfr l p0 p1 k hk t (i+1) n
   show ∃ s',T92 Ops.std _ _ _ _ p0 p1 _ some _=some s'∧_
   unfold T92
   have hw:IntKind.wrap IntKind.i64 ((i:Int)+1)=((i+1:Nat):Int):=qaf (by omega)
   simp only [qad,qak,qag,qal,qaa,mt,hw]
   obtain ⟨j,a1,g1,g2,g3,g4⟩:=qa1 l a (by omega) 2 2 rfl (by omega) (by omega)
   obtain ⟨w,a2,e1,e2,e3,e4⟩:=small_ok l a1 (by omega)
   obtain ⟨q,a3,q1,q2,q3,q4⟩:=qa1 l a2 (by omega) 6 6 rfl (by omega) (by omega)
   rw [if_pos (by omega),g4,ob_s]
   dsimp only
   have hlen:=qar (n:=1) (l:=[[120],[121],[122]]) rfl (Int.toNat (j:Int))
   generalize ([[120],[121],[122]]:List (List UInt8)).getD (Int.toNat (j:Int)) []=x at hlen ⊢
   rw [if_pos (by omega),e1,ob_s]
   dsimp only
   rw [q4,ob_s]
   dsimp only
   by_cases h0:(q:Int)=0
   ·rw [if_pos h0]
    simp only [List.length_append,List.length_cons,List.length_nil]
    rw [if_pos (by omega),if_pos (by omega),if_pos (by omega),if_pos (by omega)]
    exact ih _ a3 (by omega) (by omega) (by simp;omega) (by omega)
   ·rw [if_neg h0]
    by_cases h1:(q:Int)=1
    ·rw [if_pos h1]
     simp only [List.length_append,List.length_cons,List.length_nil]
     rw [if_pos (by omega),if_pos (by omega),if_pos (by omega),if_pos (by omega)]
     exact ih _ a3 (by omega) (by omega) (by simp;omega) (by omega)
    ·rw [if_neg h1]
     obtain ⟨u,a4,u1,u2,u3,u4⟩:=qa1 l a3 (by omega) 2 2 rfl (by omega) (by omega)
     obtain ⟨v,a5,v1,v2,v3,v4⟩:=qa1 l a4 (by omega) 3 3 rfl (by omega) (by omega)
     have hlen2:=qar (n:=1) (l:=[[120],[121],[122]]) rfl (Int.toNat (u:Int))
     simp only [List.length_append,List.length_cons,List.length_nil]
     rw [if_pos (by omega),if_pos (by omega),if_pos (by omega),if_pos (by omega),u4,ob_s]
     dsimp only
     generalize ([[120],[121],[122]]:List (List UInt8)).getD (Int.toNat (u:Int)) []=y at hlen2 ⊢
     rw [if_pos (by omega),if_pos (by omega),if_pos (by omega),v4,ob_s]
     dsimp only
     rw [if_pos (by omega),if_pos (by omega),if_pos (by omega),if_pos (by omega)]
     generalize hL:([_,_,_]:List (List UInt8))=L
     have hlen3:(L.getD (Int.toNat (v:Int)) []).length≤9:=qey (fun z hz=>by
      subst hL
      simp only [List.mem_cons,List.not_mem_nil,or_false] at hz
      rcases hz with rfl | rfl | rfl<;>simp<;>omega) _
     generalize L.getD (Int.toNat (v:Int)) []=z at hlen3 ⊢
     rw [if_pos (by omega)]
     exact ih _ a5 (by omega) (by omega) (by simp;omega) (by omega)
theorem Trans_okM (l:List Int) (N:Nat) (m:Int) (hm:m=(N:Nat)) (h0N:0<N) (h3N:N≤3):∃ s,M92 l m=some s∧s.length≤400:=by
 show ∃ s,T92 Ops.std M94 M152 M153 M154 l m (R92 M94 M152 M153 M154 l m 1000000) some none=some s∧_
 unfold T92
 simp only [qad,qak,qag,qal,qaa,mt]
 obtain ⟨j,a1,g1,g2,g3,g4⟩:=qa1 l 0 (by omega) N m hm (by omega) (by omega)
 obtain ⟨q,a2,q1,q2,q3,q4⟩:=qa1 l a1 (by omega) 3 3 rfl (by omega) (by omega)
 obtain ⟨u,a3,u1,u2,u3,u4⟩:=qa1 l a2 (by omega) 3 3 rfl (by omega) (by omega)
 obtain ⟨v,a4,v1,v2,v3,v4⟩:=qa1 l a3 (by omega) 8 8 rfl (by omega) (by omega)
 obtain ⟨w,a5,e1,e2,e3,e4⟩:=guard_ok l a4 (by omega)
 obtain ⟨z,a6,z1,z2,z3,z4⟩:=qa1 l a5 (by omega) 9 9 rfl (by omega) (by omega)
 have g4':M94 m l 0=some ((j:Int),l,(a1:Int)):=g4
 have hl1:=qar (n:=1) (l:=[[112],[113],[114]]) rfl (Int.toNat (j:Int))
 have hl2:=qar (n:=1) (l:=[[97],[98],[99],[100]]) rfl (Int.toNat (q:Int))
 have hl3:=qar (n:=1) (l:=[[97],[98],[99],[100]]) rfl (Int.toNat (u:Int))
 have hl4:=qar (n:=2) (l:=[[45],[45],[45],[45],[99,33],[99,63],[100,33],[99,63]]) rfl (Int.toNat (v:Int))
 have fin:∀ (s:List UInt8) (a:Nat) (f:Nat),f<4→s.length≤340→a≤120→∃ s',R92 M94 M152 M153 M154 l m 1000000 (.l0 s (([0,1,1,2]:List Int).getD (Int.toNat (f:Int)) 0) 0 l a)=some s'∧s'.length≤400:=fun s a f hf hs ha=>by
  obtain ⟨k,hk,hk2⟩:∃ k:Nat,([0,1,1,2]:List Int).getD (Int.toNat (f:Int)) 0=(k:Int)∧k≤2:=by
   match f,hf with
   | 0,_=>exact ⟨0,rfl,by omega⟩
   | 1,_=>exact ⟨1,rfl,by omega⟩
   | 2,_=>exact ⟨1,rfl,by omega⟩
   | 3,_=>exact ⟨2,rfl,by omega⟩
  rw [hk]
  exact qfr l l m k hk2 k 0 1000000 s a (by omega) (by omega) (by omega) (by omega)
 rw [g4',ob_s]
 dsimp only
 generalize ([[112],[113],[114]]:List (List UInt8)).getD (Int.toNat (j:Int)) []=x1 at hl1 ⊢
 rw [if_pos (by omega),if_pos (by omega),q4,ob_s]
 dsimp only
 generalize ([[97],[98],[99],[100]]:List (List UInt8)).getD (Int.toNat (q:Int)) []=x2 at hl2 ⊢
 simp only [List.length_append,List.length_cons,List.length_nil]
 rw [if_pos (by omega),if_pos (by omega),if_pos (by omega),u4,ob_s]
 dsimp only
 generalize ([[97],[98],[99],[100]]:List (List UInt8)).getD (Int.toNat (u:Int)) []=x3 at hl3 ⊢
 rw [if_pos (by omega),if_pos (by omega),if_pos (by omega),v4,ob_s]
 dsimp only
 generalize ([[45],[45],[45],[45],[99,33],[99,63],[100,33],[99,63]]:List (List UInt8)).getD (Int.toNat (v:Int)) []=x4 at hl4 ⊢
 rw [if_pos (by omega),if_pos (by omega),if_pos (by omega),e1,ob_s]
 dsimp only
 rw [z4,ob_s]
 dsimp only
 by_cases h8:(z:Int)=8
 ·obtain ⟨y,a7,y1,y2,y3,y4⟩:=expr_ok l 2 (by omega) 2 rfl a6 (by omega)
  obtain ⟨f,a8,f1,f2,f3,f4⟩:=qa1 l a7 (by omega) 4 4 rfl (by omega) (by omega)
  rw [if_pos h8,y1,ob_s]
  dsimp only
  rw [if_pos (by omega),f4,ob_s]
  dsimp only
  rw [if_pos (by omega)]
  exact fin _ a8 f f1 (by simp;omega) (by omega)
 ·obtain ⟨f,a8,f1,f2,f3,f4⟩:=qa1 l a6 (by omega) 4 4 rfl (by omega) (by omega)
  rw [if_neg h8,if_pos (by omega),f4,ob_s]
  dsimp only
  rw [if_pos (by omega)]
  exact fin _ a8 f f1 (by simp;omega) (by omega)
theorem wrapu64 {n:Int} (h1:0≤n) (h2:n≤18446744073709551615):IntKind.wrap IntKind.u64 n=n:=by
 simp [IntKind.wrap,IntKind.bits,IntKind.signed];omega
theorem plainly_d:∀ (d n:Nat),n<10 ^ d→d≤5→0<d→∀ f,d≤f→∃ s,Rec182 f (n:Int)=some s∧0<s.length∧s.length≤d
 | 0,n,hn,hd,h0,f,hf=>by omega
 | d+1,n,hn,hd,h0,f,hf=>by
   obtain ⟨e,rfl⟩:∃ e,f=e+1:=⟨f-1,by omega⟩
   have hp:10 ^ (d+1)=10*10 ^ d:=by rw [Nat.pow_succ];omega
   have hle:10 ^ (d+1)≤10 ^ 5:=Nat.pow_le_pow_right (by omega) hd
   have h5:(10:Nat) ^ 5=100000:=rfl
   show ∃ s,T182 Ops.std (Rec182 e) (n:Int) some=some s∧_
   unfold T182
   have hm:Int.tmod (n:Int) 10=((n % 10:Nat):Int):=by simp [Int.tmod_eq_emod_of_nonneg]
   have hq:Int.tdiv (n:Int) 10=((n / 10:Nat):Int):=by simp [Int.tdiv_eq_ediv_of_nonneg]
   have hlt:n % 10<10:=Nat.mod_lt _ (by omega)
   have hql:n / 10<10 ^ d:=by omega
   simp only [qak,qag,qas,qad,qal,qaa,hm,hq,wrapu64 (show 0≤((n % 10:Nat):Int)+1 by omega) (by omega),wrapu64 (show 0≤((n / 10:Nat):Int) by omega) (by omega)]
   have h1:(0:Int)≤((n % 10:Nat):Int):=by omega
   have h2:((n % 10:Nat):Int)≤((n % 10:Nat):Int)+1:=by omega
   rw [if_neg (by omega),if_neg (by omega),if_pos (by omega)]
   simp only [h1,h2,decide_true,cond_true,if_true]
   have ht:(((n % 10:Nat):Int)+1).toNat=n % 10+1:=by omega
   rw [ht,qab]
   have hl:(List.drop (n % 10) (List.take (n % 10+1) ([48,49,50,51,52,53,54,55,56,57]:List UInt8))).length=1:=by simp;omega
   generalize List.drop (n % 10) (List.take (n % 10+1) ([48,49,50,51,52,53,54,55,56,57]:List UInt8))=w at hl
   by_cases h10:(n:Int)<10
   ·rw [if_pos h10]
    exact ⟨w,rfl,by omega,by omega⟩
   ·rw [if_neg h10,if_neg (by omega)]
    have hd0:0<d:=by
     rcases Nat.eq_zero_or_pos d with h | h
     ·subst h;simp at hql;omega
     ·exact h
    obtain ⟨s,hs,hs0,hsl⟩:=plainly_d d (n / 10) hql (by omega) hd0 e (by omega)
    rw [hs,ob_s,if_pos (by omega)]
    exact ⟨_,rfl,by simp;omega,by simp;omega⟩
theorem qdl (n:Nat) (hn:n<100000):∃ s,M151 (n:Int)=some s∧s.length≤5:=by
 obtain ⟨s,h1,h2,h3⟩:=plainly_d 5 n (by omega) (by omega) (by omega) 1000000 (by omega)
 refine ⟨s,?_,h3⟩
 show T151 Ops.std M182 (n:Int) some=_
 unfold T151
 simp only [qad,qaa]
 rw [if_neg (by omega),wrapu64 (by omega) (by omega)]
 have h1':M182 (n:Int)=some s:=h1
 rw [h1',ob_s]
theorem Decimal_ok (n:Nat) (hn:n<100000):∃ s,M91 (n:Int)=some s∧s.length≤5:=by
 obtain ⟨s,h1,h2⟩:=qdl n hn
 refine ⟨s,?_,h2⟩
 show T91 Ops.std M151 (n:Int) some=_
 unfold T91
 rw [h1,ob_s]
noncomputable abbrev txR (p0 p1:Int) (p2:List (List Int)):=R48 M29 M91 M92 p0 p1 p2
section
variable (p0 p1:Int) (p2:List (List Int))
end
def okL (L:Nat) (l:List (List UInt8)):Prop:=∀ w∈l,w.length≤L
theorem okL.app {L:Nat} {l:List (List UInt8)} {w:List UInt8} (h:okL L l) (hw:w.length≤L):okL L (l++[w]):=fun x hx=>by
 rcases List.mem_append.1 hx with hx | hx
 ·exact h x hx
 ·simp only [List.mem_singleton] at hx;rw [hx];exact hw
theorem okL.get {L:Nat} {l:List (List UInt8)} (h:okL L l) (k:Nat):(l.getD k []).length≤L:=by
 rw [List.getD_eq_getElem?_getD]
 by_cases hk:k<l.length
 ·rw [List.getElem?_eq_getElem hk];exact h _ (List.getElem_mem hk)
 ·rw [List.getElem?_eq_none (by omega)];simp
noncomputable abbrev cutR (s:List UInt8) (c:Int):=R86 s c
theorem cut_loop (s:List UInt8) (hs:s.length≤60000) (c:Int):∀ (t i n fr:Nat) (out:List (List UInt8)),i+t=s.length→t<n→fr≤i→out.length≤i→okL s.length out→∃ l,cutR s c n (.l0 fr i out)=some l∧0<l.length∧l.length≤s.length+1∧okL s.length l
 | t,i,0,fr,out,hi,hn,hf,ho,hk=>by omega
 | 0,i,n+1,fr,out,hi,hn,hf,ho,hk=>by
   show ∃ l,T86 Ops.std s c _ some _=some l∧_
   unfold T86
   simp only [qad,qag,qal,qaa,qab,mt,List.length_cons,List.length_nil]
   rw [if_neg (by omega),if_pos (by omega),if_pos (by omega)]
   exact ⟨_,rfl,by simp,by simp;omega,hk.app (by simp)⟩
 | t+1,i,n+1,fr,out,hi,hn,hf,ho,hk=>by
   have ih:=cut_loop s hs c t (i+1) n
   show ∃ l,T86 Ops.std s c _ some _=some l∧_
   unfold T86
   have hw:IntKind.wrap IntKind.i64 ((i:Int)+1)=((i+1:Nat):Int):=qaf (by omega)
   have h1:(0:Int)≤(fr:Int):=by omega
   have h2:(fr:Int)≤(i:Int):=by omega
   simp only [qad,qag,qal,qas,qak,qaa,qab,mt,List.length_cons,List.length_nil,hw,h1,h2,decide_true,cond_true,if_true]
   rw [if_pos (by omega),if_pos (by omega)]
   split
   ·rw [if_pos (by omega),if_pos (by omega)]
    exact ih (i+1) _ (by omega) (by omega) (by omega) (by simp;omega) (hk.app (by simp;omega))
   ·exact ih fr out (by omega) (by omega) (by omega) (by omega) hk
theorem cut_ok (s:List UInt8) (hs:s.length≤60000) (c:Int):∃ l,M86 s c=some l∧0<l.length∧l.length≤s.length+1∧okL s.length l:=by
 show ∃ l,T86 Ops.std s c (cutR s c 1000000) some none=some l∧_
 unfold T86
 exact cut_loop s hs c s.length 0 1000000 0 [] (by omega) (by omega) (by omega) (by simp) (fun w h=>by cases h)
theorem qfs (p:List UInt8) (L:Nat) (l:List (List UInt8)) (hl:l.length≤100000) (hL:okL L l):∀ (t i n:Nat) (out:List (List UInt8)),i+t=l.length→t<n→out.length≤i→okL L out→∃ r,R87 M86 p n (.l0 i out l)=some r∧r.length≤l.length∧okL L r
 | t,i,0,out,hi,hn,ho,hk=>by omega
 | 0,i,n+1,out,hi,hn,ho,hk=>by
   show ∃ r,T87 Ops.std _ p _ some _=some r∧_
   unfold T87
   simp only [qad,qaa]
   rw [if_neg (by omega)]
   exact ⟨out,rfl,by omega,hk⟩
 | t+1,i,n+1,out,hi,hn,ho,hk=>by
   have ih:=qfs p L l hl hL t (i+1) n
   show ∃ r,T87 Ops.std _ p _ some _=some r∧_
   unfold T87
   have hw:IntKind.wrap IntKind.i64 ((i:Int)+1)=((i+1:Nat):Int):=qaf (by omega)
   simp only [qad,qag,qal,qaa,qab,mt,List.length_cons,List.length_nil,hw]
   rw [if_pos (by omega),if_pos (by omega)]
   cases hb:!(l.getD i (Ty.dflt ty9) == ([]:List UInt8)) with
   | false=>simp only [cond_false];exact ih out (by omega) (by omega) (by omega) hk
   | true=>
     simp only [cond_true]
     rw [if_pos (by omega),if_pos (by omega)]
     exact ih _ (by omega) (by omega) (by simp;omega) (hk.app (hL.get i))
theorem words_ok (s:List UInt8) (hs:s.length≤60000):∃ l,M87 s=some l∧l.length≤s.length+1∧okL s.length l:=by
 obtain ⟨l,h1,h2,h3,h4⟩:=cut_ok s hs 32
 show ∃ l,T87 Ops.std M86 s (R87 M86 s 1000000) some none=some l∧_
 unfold T87
 rw [h1,ob_s]
 obtain ⟨r,r1,r2,r3⟩:=qfs s s.length l (by omega) h4 l.length 0 1000000 [] (by omega) (by omega) (by simp) (fun w h=>by cases h)
 exact ⟨r,r1,by omega,r3⟩
theorem skip_all (p0:List UInt8) (p1:Int):∀ n:Nat,(∀ (s:List UInt8) (k:Nat),k≤1000→s.length+3*k+1≤n→∃ s',R90 p0 p1 n (.l0 s (k:Nat))=some s'∧s'.length≤s.length)∧
  (∀ (s:List UInt8) (k:Nat),k≤1000→1≤k→s.length+3*k≤n→∃ s',R90 p0 p1 n (.l1 s (k:Nat))=some s'∧s'.length≤s.length)∧
  (∀ (s:List UInt8) (k:Nat),k≤1000→1≤k→s.length+3*k≤n+1→∃ s',R90 p0 p1 n (.l2 s (k:Nat))=some s'∧s'.length≤s.length)
 | 0=>⟨fun s k h0 h=>by omega,fun s k h0 h1 h=>by omega,fun s k h0 h1 h=>by omega⟩
 | n+1=>by
   obtain ⟨ia,ib,ic⟩:=skip_all p0 p1 n
   refine ⟨fun s k h0 h=>?_,fun s k h0 h1 h=>?_,fun s k h0 h1 h=>?_⟩
   ·show ∃ s',T90 Ops.std p0 p1 _ some _=some s'∧_
    unfold T90
    simp only [qad,qaa]
    by_cases hk:0<k
    ·rw [if_pos (by omega)];exact ib s k h0 (by omega) (by omega)
    ·rw [if_neg (by omega)];exact ⟨s,rfl,by omega⟩
   ·show ∃ s',T90 Ops.std p0 p1 _ some _=some s'∧_
    unfold T90
    simp only [qad,qag,qak,qaa,List.take_length]
    by_cases hs:0<s.length
    ·rw [if_pos (by omega),if_pos (by omega)]
     split
     ·rw [if_pos (by omega)]
      obtain ⟨s',e1,e2⟩:=ib (s.drop (Int.toNat 1)) k h0 h1 (by simp;omega)
      exact ⟨s',e1,by simp at e2;omega⟩
     ·exact ic s k h0 h1 (by omega)
    ·rw [if_neg (by omega)];exact ic s k h0 h1 (by omega)
   ·show ∃ s',T90 Ops.std p0 p1 _ some _=some s'∧_
    unfold T90
    have hw:IntKind.wrap IntKind.i64 ((k:Int)-1)=((k-1:Nat):Int):=by rw [wrap64 (by omega) (by omega)];omega
    simp only [qad,qag,qak,qao,qaa,List.take_length,hw]
    by_cases hs:0<s.length
    ·rw [if_pos (by omega),if_pos (by omega)]
     split
     ·rw [if_pos (by omega)]
      obtain ⟨s',e1,e2⟩:=ic (s.drop (Int.toNat 1)) k h0 h1 (by simp;omega)
      exact ⟨s',e1,by simp at e2;omega⟩
     ·exact ia s (k-1) (by omega) (by omega)
    ·rw [if_neg (by omega)];exact ia s (k-1) (by omega) (by omega)
theorem skip_ok (s:List UInt8) (hs:s.length≤60000) (k:Nat) (hk:k≤10):∃ s',M90 s (k:Nat)=some s'∧s'.length≤s.length:=by
 show ∃ s',T90 Ops.std s (k:Nat) (R90 s (k:Nat) 1000000) some none=some s'∧_
 unfold T90
 exact (skip_all s (k:Nat) 1000000).1 s k (by omega) (by omega)
theorem qcr (s:List UInt8) (b:Bool) (d:Nat):∀ (t i n:Nat) (v:Int),i+t=4→t<n→∃ r,R147 (Rec147 d) M104 s b n (.l0 v i)=some r
 | t,i,0,v,hi,hn=>by omega
 | t,i,n+1,v,hi,hn=>by
   have ih:=fun (h:0<t)=>qcr s b d (t-1) (i+1) n
   show ∃ r,T147 Ops.std _ _ s b _ some _=some r
   unfold T147
   have hw:IntKind.wrap IntKind.i64 ((i:Int)+1)=((i+1:Nat):Int):=qaf (by omega)
   simp only [qad,qag,qaa,qab,qbc,ob_s,hw]
   by_cases h:(i:Int)<(s.length:Int)
   ·rw [if_pos h,if_pos (by omega)]
    cases !digitP' (s.getD i 0) with
    | true=>exact ⟨_,rfl⟩
    | false=>
      simp only [cond_false]
      rw [if_pos (by omega)]
      by_cases h2:(2:Int)<(i:Int)
      ·rw [if_pos h2];exact ⟨_,rfl⟩
      ·rw [if_neg h2];exact ih (by omega) _ (by omega) (by omega)
   ·rw [if_neg h];exact ⟨_,rfl⟩
theorem amount_f (s:List UInt8) (d:Nat):∃ r,Rec147 (d+1) s false=some r:=by
 show ∃ r,T147 Ops.std (Rec147 d) M104 s false (R147 (Rec147 d) M104 s false 1000000) some none=some r
 unfold T147
 exact qcr s false d 4 0 1000000 0 (by omega) (by omega)
theorem qc3 (s:List UInt8) (b:Bool):∃ n ok,M147 s b=some (n,ok):=by
 have key:∃ r,Rec147 (999998+1+1) s b=some r:=by
  cases b with
  | false=>exact amount_f s _
  | true=>
    show ∃ r,T147 Ops.std (Rec147 (999998+1)) M104 s true (R147 (Rec147 (999998+1)) M104 s true 1000000) some none=some r
    have hz:=qcr s true (999998+1) 4 0 1000000 0 (by omega) (by omega)
    unfold T147
    simp only [qad,qag,qak,qaa,cond_true]
    by_cases h:(1:Int)<(s.length:Int)
    ·rw [if_pos h,if_pos (by omega)]
     split
     ·rw [if_pos (by omega)]
      obtain ⟨r,hr⟩:=amount_f ((s.take s.length).drop (Int.toNat 1)) 999998
      rw [hr]
      exact ⟨_,rfl⟩
     ·exact hz
    ·rw [if_neg h];exact hz
 obtain ⟨⟨n,ok⟩,h⟩:=key
 exact ⟨n,ok,h⟩
theorem qez (w:List (List UInt8)) (L:Nat) (hw:okL L w):∃ nm lo hi ini ok,M88 w=some (nm,lo,hi,ini,ok)∧nm.length≤L:=by
 show ∃ nm lo hi ini ok,T88 Ops.std M147 w some=some (nm,lo,hi,ini,ok)∧_
 unfold T88
 simp only [qak,qag,qao,qaa,mt]
 by_cases h:((w.length:Nat):Int)=4
 ·rw [if_neg (by simp [h]),if_pos (by omega)]
  obtain ⟨n1,o1,e1⟩:=qc3 (w.getD (Int.toNat 1) (Ty.dflt ty9)) true
  obtain ⟨n2,o2,e2⟩:=qc3 (w.getD (Int.toNat 2) (Ty.dflt ty9)) true
  obtain ⟨n3,o3,e3⟩:=qc3 (w.getD (Int.toNat 3) (Ty.dflt ty9)) true
  rw [e1,ob_s,if_pos (by omega),e2,ob_s,if_pos (by omega),e3,ob_s,if_pos (by omega)]
  have hg:=hw.get (Int.toNat 0)
  cases o1<;>cases o2<;>exact ⟨_,_,_,_,_,rfl,hg⟩
 ·rw [if_pos h]
  exact ⟨_,_,_,_,_,rfl,by simp⟩
theorem qdm (s:List UInt8) (hs:s.length<900000):∃ c ok,M106 s=some (c,ok):=by
 show ∃ c ok,T106 Ops.std M58 s some=some (c,ok)
 unfold T106
 cases hb:s == mt UInt8 with
 | true=>exact ⟨_,_,rfl⟩
 | false=>
   have h0:0<s.length:=by
    cases s with
    | nil=>cases hb
    | cons a b=>simp
   have hw:IntKind.wrap IntKind.i64 ((s.length:Int)-1)=((s.length-1:Nat):Int):=by rw [wrap64 (by omega) (by omega)];omega
   simp only [qag,qaa,cond_false,hw,qab]
   rw [if_pos (by omega),if_pos (by omega),qa0 _ (by simp;omega),ob_s]
   generalize isWordP _=b
   generalize (List.drop (s.length-1) (List.take s.length s) == [33])=b2
   cases b<;>cases b2<;>exact ⟨_,_,rfl⟩
theorem id_ok (n:Int):M107 n=some (decide (1≤n∧n≤999)):=by
 show T107 Ops.std n some=_
 unfold T107
 simp only [qas,qaa]
 by_cases h:1≤n
 ·rw [if_pos h];simp [h]
 ·rw [if_neg h];simp [h]
theorem w999_ok (n:Int):M59 n=some (decide (-999≤n∧n≤999)):=by
 show T59 Ops.std n some=_
 unfold T59
 simp only [qas,qaa]
 by_cases h:-999≤n
 ·rw [if_pos h];simp [h]
 ·rw [if_neg h];simp [h]
def shortE (f:List Trm):Prop:=f.length≤30∧∀ t∈f,t.2.2.1.length≤8∧t.2.2.2.length≤8
theorem qbn:shortE []:=⟨by simp,fun t h=>by cases h⟩
theorem shortE.of {f:List Trm} (h:rightE f=true):shortE f:=qd0 h
theorem shortE.small {f:List Trm} (h:shortE f):smallE f:=⟨by have:=h.1;omega,fun t ht=>by have:=h.2 t ht;omega⟩
theorem shortE.right {f:List Trm} (h:shortE f):M110 f=some (rightE f):=qfo f h.small (by have:=h.1;omega)
theorem parse7_ok (s:List UInt8):∃ e x f,M148 s=some (e,x,f)∧shortE f∧(e=0→rightE f=true):=by
 show ∃ e x f,T148 Ops.std M82 M177 s some=some (e,x,f)∧_
 unfold T148
 rw [lex_ref,ob_s]
 rcases hl:lexS s with ⟨e,x,l⟩
 simp only [qak,qag,qao,qaa,mt]
 by_cases he:e=0
 ·subst he
  obtain ⟨h1,h2,h3⟩:=lexS_ok hl
  rw [if_neg (by simp)]
  have hln:=toks_len h1
  obtain ⟨k,e2,y,t1,t2,t3⟩:=take_ok h1 (by omega) 0 hln
  have t1':M177 l 0=some ((k:Int),e2,y):=t1
  rw [t1',ob_s]
  dsimp only
  rcases t3 with ⟨rfl,_,hr,_⟩ | ⟨rfl,rfl⟩ | ⟨rfl,rfl,_⟩
  ·rw [if_neg (by simp),if_pos (by omega)]
   split
   ·rw [if_pos (by omega)]
    exact ⟨_,_,_,rfl,qbn,fun h=>by cases h⟩
   ·exact ⟨_,_,_,rfl,shortE.of hr,fun _=>hr⟩
  ·rw [if_pos (by decide),if_pos (by omega)]
   exact ⟨_,_,_,rfl,qbn,fun h=>by cases h⟩
  ·rw [if_pos (by decide),if_pos (by omega)]
   exact ⟨_,_,_,rfl,qbn,fun h=>by cases h⟩
 ·rw [if_pos he]
  exact ⟨_,_,_,rfl,qbn,fun h=>absurd h he⟩
abbrev Eff:=List UInt8×List Trm
def okEf (x:Eff):Prop:=x.1.length≤8∧rightE x.2=true
theorem qd1 (p:List (List UInt8)) (hp:p.length≤100000):∀ (t i n:Nat) (out:List Eff),i+t=p.length→t<n→out.length≤i→(∀ x∈out,okEf x)→
  ∃ b o,R149 M82 M177 p n (.l0 i out)=some (b,o)∧o.length≤p.length∧∀ x∈o,okEf x
 | t,i,0,out,hi,hn,ho,hk=>by omega
 | 0,i,n+1,out,hi,hn,ho,hk=>by
   show ∃ b o,T149 Ops.std _ _ p _ some _=some (b,o)∧_
   unfold T149
   simp only [qad,qaa]
   rw [if_neg (by omega)]
   exact ⟨_,_,rfl,by omega,hk⟩
 | t+1,i,n+1,out,hi,hn,ho,hk=>by
   have ih:=qd1 p hp t (i+1) n
   have bad:∃ b o,(some ((false,([]:List Eff))):Option (Bool×List Eff))=some (b,o)∧o.length≤p.length∧∀ x∈o,okEf x:=⟨_,_,rfl,by simp,fun x h=>by cases h⟩
   show ∃ b o,T149 Ops.std _ _ p _ some _=some (b,o)∧_
   unfold T149
   have hw:IntKind.wrap IntKind.i64 ((i:Int)+1)=((i+1:Nat):Int):=qaf (by omega)
   simp only [qad,qag,qal,qak,qao,qaa,qab,mt,List.length_cons,List.length_nil,hw]
   rw [if_pos (by omega),if_pos (by omega),lex_ref,ob_s]
   rcases hl:lexS (p.getD i (Ty.dflt ty9)) with ⟨e,x,l⟩
   dsimp only
   by_cases he:e=0
   ·subst he
    obtain ⟨h1,h2,h3⟩:=lexS_ok hl
    rw [if_neg (by simp)]
    by_cases h3l:(l.length:Int)<3
    ·rw [if_pos h3l];exact bad
    ·rw [if_neg h3l,if_pos (by omega)]
     by_cases hk0:(l.getD (Int.toNat 0) (Ty.dflt ty130)).1=2
     ·rw [if_neg (fun h=>h hk0),if_pos (by omega)]
      by_cases hk1:(l.getD (Int.toNat 1) (Ty.dflt ty130)).1=4
      ·rw [if_neg (fun h=>h hk1),if_pos (by omega)]
       cases !(l.getD (Int.toNat 1) (Ty.dflt ty130)).2.1 == ([61]:List UInt8) with
       | true=>simp only [cond_true];exact bad
       | false=>
         simp only [cond_false]
         obtain ⟨k,e2,y,t1,t2,t3⟩:=take_ok h1 (by omega) 2 (by omega)
         have t1':M177 l 2=some ((k:Int),e2,y):=t1
         rw [t1',ob_s]
         dsimp only
         rcases t3 with ⟨rfl,_,hr,_⟩ | ⟨rfl,rfl⟩ | ⟨rfl,rfl,_⟩
         ·rw [if_neg (by simp),if_pos (by omega)]
          split
          ·exact bad
          ·rw [if_pos (by omega),if_pos (by omega)]
           refine ih _ (by omega) (by omega) (by simp;omega) fun z hz=>?_
           rcases List.mem_append.1 hz with hz | hz
           ·exact hk z hz
           ·simp only [List.mem_singleton] at hz
            rw [hz]
            refine ⟨?_,hr⟩
            have:=(toks_at h1 (i:=0) (by omega) (Ty.dflt ty130)).2.1.2 hk0
            exact qea this
         ·rw [if_pos (by decide)];exact bad
         ·rw [if_pos (by decide)];exact bad
      ·rw [if_pos hk1];exact bad
     ·rw [if_pos hk0];exact bad
   ·rw [if_pos he];exact bad
theorem effects_ok (p:List (List UInt8)) (hp:p.length≤100000):∃ b o,M149 p=some (b,o)∧o.length≤p.length∧∀ x∈o,okEf x:=by
 show ∃ b o,T149 Ops.std M82 M177 p (R149 M82 M177 p 1000000) some none=some (b,o)∧_
 unfold T149
 exact qd1 p hp p.length 0 1000000 [] (by omega) (by omega) (by simp) (fun x h=>by cases h)
def pB:Nat→Nat
 | 0=>20
 | i+1=>2*pB i+20
theorem pB_le:∀ i,i≤30→pB i≤43000000000:=by decide
theorem pB_ge:∀ i,20≤pB i
 | 0=>by simp [pB]
 | i+1=>by have:=pB_ge i;simp only [pB];omega
theorem qce (s:List UInt8) (a b:Int) (hs:s.length≤100000000000):∃ r,M179 s a b=some r∧r.length≤s.length+2:=by
 show ∃ r,T179 Ops.std s a b some=some r∧_
 unfold T179
 simp only [qad,qal,qaa,List.length_append,List.length_cons,List.length_nil]
 by_cases h:a<b
 ·rw [if_pos h,if_pos (by omega),if_pos (by omega)];exact ⟨_,rfl,by simp⟩
 ·rw [if_neg h];exact ⟨s,rfl,by omega⟩
theorem may_num {t:Trm} (h:mayT t=true) (h1:t.1=1):0≤t.2.1∧t.2.1≤999:=by
 unfold mayT at h
 simp [h1] at h
 omega
theorem rightE_may {e:List Trm} (h:rightE e=true):∀ t∈e,mayT t=true:=by
 unfold rightE fin30 at h
 cases hg:eGo e 0 with
 | none=>rw [hg] at h;cases h
 | some d=>exact eGo_may e 0 d hg
abbrev Sd:=List UInt8×Int
noncomputable abbrev prR (e:List Trm):=R145 M110 M178 M161 M151 M179 e
def okS (L:Nat) (st:List Sd):Prop:=∀ x∈st,x.1.length≤L
theorem okS.mono {L L':Nat} {st:List Sd} (h:okS L st) (hl:L≤L'):okS L' st:=fun x hx=>Nat.le_trans (h x hx) hl
theorem okS.app {L:Nat} {st:List Sd} {x:Sd} (h:okS L st) (hx:x.1.length≤L):okS L (st++[x]):=fun y hy=>by
 rcases List.mem_append.1 hy with hy | hy
 ·exact h y hy
 ·simp only [List.mem_singleton] at hy;rw [hy];exact hx
theorem okS.take {L:Nat} {st:List Sd} (h:okS L st) (k:Nat):okS L (st.take k):=fun y hy=>h y (List.mem_of_mem_take hy)
theorem okS.get {L:Nat} {st:List Sd} (h:okS L st) (k:Nat) (hk:k<st.length) (d:Sd):(st.getD k d).1.length≤L:=by
 rw [List.getD_eq_getElem?_getD,List.getElem?_eq_getElem hk];exact h _ (List.getElem_mem hk)
def sgnL:List (List UInt8):=[[],[],[],[],[33],[45],[42],[43],[45],[60],[60,61],[62],[62,61],[61,61],[33,61],[38,38],[124,124]]
theorem sgnL_len (k:Nat):(sgnL.getD k []).length≤2:=qar (n:=2) rfl k
theorem qft (e:List Trm) (he:rightE e=true):∀ (t i n:Nat) (st:List Sd),i+t=e.length→t<n→st.length≤i→okS (pB i) st→∃ s,prR e n (.l0 i st)=some s∧s.length≤43000000000
 | t,i,0,st,hi,hn,ho,hk=>by omega
 | 0,i,n+1,st,hi,hn,ho,hk=>by
   have hsh:=shortE.of he
   have hB:=pB_le i (by have:=hsh.1;omega)
   show ∃ s,T145 Ops.std _ _ _ _ _ e _ some _=some s∧_
   unfold T145
   simp only [qad,qag,qak,qaa]
   rw [if_neg (by omega)]
   by_cases h0:((st.length:Nat):Int)=0
   ·rw [if_pos h0];exact ⟨_,rfl,by simp⟩
   ·rw [if_neg h0,if_pos (by omega)]
    exact ⟨_,rfl,by have:=hk.get 0 (by omega) (Ty.dflt ty210);exact Nat.le_trans this hB⟩
 | t+1,i,n+1,st,hi,hn,ho,hk=>by
   have ih:=qft e he t (i+1) n
   have hsh:=shortE.of he
   have h30:=hsh.1
   have hB:=pB_le i (by omega)
   have hG:=pB_ge i
   have hB1:pB (i+1)=2*pB i+20:=rfl
   obtain ⟨x,hx⟩:∃ x,e.getD i (Ty.dflt ty150)=x:=⟨_,rfl⟩
   have hm:x∈e:=by
    rw [←hx,List.getD_eq_getElem?_getD,List.getElem?_eq_getElem (by omega)];exact List.getElem_mem _
   have hmay:=rightE_may he _ hm
   have hnm:=hsh.2 _ hm
   have hop:=mayT_op hmay
   show ∃ s,T145 Ops.std _ _ _ _ _ e _ some _=some s∧_
   unfold T145
   have hw:IntKind.wrap IntKind.i64 ((i:Int)+1)=((i+1:Nat):Int):=qaf (by omega)
   obtain ⟨v,hv⟩:=qcz x.1
   simp only [qad,qag,qal,qak,qaa,qab,hx,hw,hv,opE_ref,ob_s,mt,List.length_cons,List.length_nil]
   rw [if_pos (by omega),if_pos (by omega)]
   by_cases o0:opE x.1=0
   ·rw [if_pos o0]
    by_cases h1:x.1=1
    ·obtain ⟨q1,q2⟩:=may_num hmay h1
     obtain ⟨s,d1,d2⟩:=qdl x.2.1.toNat (by omega)
     rw [Int.toNat_of_nonneg q1] at d1
     rw [if_pos h1,d1,ob_s,if_pos (by omega)]
     exact ih _ (by omega) (by omega) (by simp;omega) ((hk.mono (by omega)).app (by show s.length≤_;omega))
    ·rw [if_neg h1]
     by_cases h2:x.1=2
     ·rw [if_pos h2,if_pos (by omega)]
      exact ih _ (by omega) (by omega) (by simp;omega) ((hk.mono (by omega)).app (by show x.2.2.1.length≤_;omega))
     ·rw [if_neg h2]
      simp only [List.length_append,List.length_cons,List.length_nil]
      rw [if_pos (by omega),if_pos (by omega),if_pos (by omega)]
      exact ih _ (by omega) (by omega) (by simp;omega) ((hk.mono (by omega)).app (by show (x.2.2.1++([64]:List UInt8)++x.2.2.2).length≤_;simp;omega))
   ·rw [if_neg o0]
    have hop17:0≤x.1∧x.1<17:=by unfold opE at hop;split at hop<;>omega
    have hsl:(([[],[],[],[],[33],[45],[42],[43],[45],[60],[60,61],[62],[62,61],[61,61],[33,61],[38,38],[124,124]]:List (List UInt8)).getD (Int.toNat x.1) []).length≤2:=sgnL_len (Int.toNat x.1)
    by_cases o1:opE x.1=1
    ·rw [if_pos o1]
     by_cases hl:((st.length:Nat):Int)<1
     ·rw [if_pos hl];exact ⟨_,rfl,by simp⟩
     ·have hw1:IntKind.wrap IntKind.i64 ((st.length:Int)-1)=((st.length-1:Nat):Int):=by rw [wrap64 (by omega) (by omega)];omega
      rw [if_neg hl]
      simp only [hw1,qab]
      have hg:=hk.get (st.length-1) (by omega) (Ty.dflt ty210)
      obtain ⟨r,r1,r2⟩:=qce (st.getD (st.length-1) (Ty.dflt ty210)).1 (st.getD (st.length-1) (Ty.dflt ty210)).2 v (by omega)
      rw [if_pos (by omega),if_pos (by omega),r1,ob_s]
      generalize ([[],[],[],[],[33],[45],[42],[43],[45],[60],[60,61],[62],[62,61],[61,61],[33,61],[38,38],[124,124]]:List (List UInt8)).getD (Int.toNat x.1) []=sg at hsl ⊢
      rw [if_pos (by omega),if_pos (by omega),if_pos (by simp;omega)]
      exact ih _ (by omega) (by omega) (by simp;omega) (((hk.mono (by omega)).take _).app (by show (sg++r).length≤_;simp;omega))
    ·rw [if_neg o1]
     by_cases hl:((st.length:Nat):Int)<2
     ·rw [if_pos hl];exact ⟨_,rfl,by simp⟩
     ·have hw1:IntKind.wrap IntKind.i64 ((st.length:Int)-1)=((st.length-1:Nat):Int):=by rw [wrap64 (by omega) (by omega)];omega
      have hw2:IntKind.wrap IntKind.i64 ((st.length:Int)-2)=((st.length-2:Nat):Int):=by rw [wrap64 (by omega) (by omega)];omega
      rw [if_neg hl]
      simp only [hw1,hw2,qab]
      have hg1:=hk.get (st.length-1) (by omega) (Ty.dflt ty210)
      have hg2:=hk.get (st.length-2) (by omega) (Ty.dflt ty210)
      generalize ([[],[],[],[],[33],[45],[42],[43],[45],[60],[60,61],[62],[62,61],[61,61],[33,61],[38,38],[124,124]]:List (List UInt8)).getD (Int.toNat x.1) []=sg at hsl ⊢
      by_cases h3:v=3
      ·rw [if_pos h3]
       obtain ⟨a,a1,a2⟩:=qce (st.getD (st.length-2) (Ty.dflt ty210)).1 (st.getD (st.length-2) (Ty.dflt ty210)).2 4 (by omega)
       obtain ⟨c,c1,c2⟩:=qce (st.getD (st.length-1) (Ty.dflt ty210)).1 (st.getD (st.length-1) (Ty.dflt ty210)).2 (IntKind.wrap IntKind.i64 (v+1)) (by omega)
       simp only [a1,c1,ob_s,List.length_append]
       rw [if_pos (by omega),if_pos (by omega),if_pos (by omega),if_pos (by omega),if_pos (by omega),if_pos (by omega),if_pos (by simp;omega)]
       exact ih _ (by omega) (by omega) (by simp;omega) (((hk.mono (by omega)).take _).app (by show (a++sg++c).length≤_;simp;omega))
      ·rw [if_neg h3]
       obtain ⟨a,a1,a2⟩:=qce (st.getD (st.length-2) (Ty.dflt ty210)).1 (st.getD (st.length-2) (Ty.dflt ty210)).2 v (by omega)
       obtain ⟨c,c1,c2⟩:=qce (st.getD (st.length-1) (Ty.dflt ty210)).1 (st.getD (st.length-1) (Ty.dflt ty210)).2 (IntKind.wrap IntKind.i64 (v+1)) (by omega)
       simp only [a1,c1,ob_s,List.length_append]
       rw [if_pos (by omega),if_pos (by omega),if_pos (by omega),if_pos (by omega),if_pos (by omega),if_pos (by omega),if_pos (by simp;omega)]
       exact ih _ (by omega) (by omega) (by simp;omega) (((hk.mono (by omega)).take _).app (by show (a++sg++c).length≤_;simp;omega))
theorem print_ok (e:List Trm) (h:shortE e) (hr:rightE e=true):∃ s,M145 e=some s∧s.length≤43000000000:=by
 show ∃ s,T145 Ops.std M110 M178 M161 M151 M179 e (prR e 1000000) some none=some s∧_
 unfold T145
 rw [h.right,ob_s,hr]
 simp only [Bool.not_true,cond_false]
 exact qft e hr e.length 0 1000000 [] (by omega) (by have:=h.1;omega) (by simp) (fun x h=>by cases h)
theorem okEf.short {x:Eff} (h:okEf x):shortE x.2:=shortE.of h.2
theorem reff_loop (l:List Eff) (hl:l.length≤100000) (hk:∀ x∈l,okEf x):∀ (t i n:Nat),i+t=l.length→t<n→∃ b,R180 M58 M110 l n (.l0 i)=some b∧(b=true→l.length≤3)
 | t,i,0,hi,hn=>by omega
 | 0,i,n+1,hi,hn=>by
   show ∃ b,T180 Ops.std _ _ l _ some _=some b∧_
   unfold T180
   simp only [qad,qas,qaa]
   rw [if_neg (by omega)]
   exact ⟨_,rfl,fun h=>by simp at h;omega⟩
 | t+1,i,n+1,hi,hn=>by
   have ih:=reff_loop l hl hk t (i+1) n
   show ∃ b,T180 Ops.std _ _ l _ some _=some b∧_
   unfold T180
   have hw:IntKind.wrap IntKind.i64 ((i:Int)+1)=((i+1:Nat):Int):=qaf (by omega)
   have hm:l.getD i (Ty.dflt ty157)∈l:=by
    rw [List.getD_eq_getElem?_getD,List.getElem?_eq_getElem (by omega)];exact List.getElem_mem _
   have hx:=hk _ hm
   simp only [qad,qag,qaa,qab,hw]
   rw [if_pos (by omega),if_pos (by omega),qa0 _ (by have:=hx.1;omega),ob_s]
   cases isWordP (l.getD i (Ty.dflt ty157)).1 with
   | false=>exact ⟨false,rfl,fun h=>by cases h⟩
   | true=>
     simp only [Bool.not_true,cond_false]
     rw [if_pos (by omega),hx.short.right,ob_s,hx.2]
     simp only [Bool.not_true,cond_false]
     exact ih (by omega) (by omega)
theorem reff_ok (l:List Eff) (hl:l.length≤100000) (hk:∀ x∈l,okEf x):∃ b,M180 l=some b∧(b=true→l.length≤3):=by
 show ∃ b,T180 Ops.std M58 M110 l (R180 M58 M110 l 1000000) some none=some b∧_
 unfold T180
 exact reff_loop l hl hk l.length 0 1000000 (by omega) (by omega)
theorem peff_loop (l:List Eff) (h3:l.length≤3) (hk:∀ x∈l,okEf x):∀ (t i n:Nat) (s:List UInt8),i+t=l.length→t<n→s.length≤i*43000000100→∃ r,R181 M145 l n (.l0 s i)=some r∧r.length≤130000000000
 | t,i,0,s,hi,hn,hs=>by omega
 | 0,i,n+1,s,hi,hn,hs=>by
   show ∃ r,T181 Ops.std _ l _ some _=some r∧_
   unfold T181
   simp only [qad,qaa]
   rw [if_neg (by omega)]
   exact ⟨_,rfl,by omega⟩
 | t+1,i,n+1,s,hi,hn,hs=>by
   have ih:=peff_loop l h3 hk t (i+1) n
   show ∃ r,T181 Ops.std _ l _ some _=some r∧_
   unfold T181
   have hw:IntKind.wrap IntKind.i64 ((i:Int)+1)=((i+1:Nat):Int):=qaf (by omega)
   have hm:l.getD i (Ty.dflt ty157)∈l:=by
    rw [List.getD_eq_getElem?_getD,List.getElem?_eq_getElem (by omega)];exact List.getElem_mem _
   have hx:=hk _ hm
   have hx1:=hx.1
   obtain ⟨w,w1,w2⟩:=print_ok _ hx.short hx.2
   simp only [qad,qag,qal,qaa,qab,hw,w1,ob_s,List.length_append,List.length_cons,List.length_nil]
   rw [if_pos (by omega),if_pos (by omega),if_pos (by omega),if_pos (by omega),if_pos (by omega),if_pos (by omega),if_pos (by omega)]
   exact ih _ (by omega) (by omega) (by simp only [List.length_append,List.length_cons,List.length_nil];omega)
theorem peff_ok (l:List Eff) (h3:l.length≤3) (hk:∀ x∈l,okEf x):∃ r,M181 l=some r∧r.length≤130000000000:=by
 show ∃ r,T181 Ops.std M145 l (R181 M145 l 1000000) some none=some r∧_
 unfold T181
 exact peff_loop l h3 hk l.length 0 1000000 [] (by omega) (by omega) (by simp)
theorem printTrans_ok (id:Int) (a b c d:List UInt8) (g:List Trm) (ef:List Eff) (ha:a.length≤60000) (hb:b.length≤60000) (hc:c.length≤60000) (hd:d.length≤60000) (hg:shortE g) (hl:ef.length≤100000) (hk:∀ x∈ef,okEf x) :
  ∃ s,M150 id a b c d g ef=some s:=by
 show ∃ s,T150 Ops.std M106 M107 M58 M110 M180 M151 M145 M181 id a b c d g ef some=some s
 unfold T150
 obtain ⟨ch,ok,h1⟩:=qdm d (by omega)
 rw [h1,ob_s,id_ok,ob_s,qa0 a (by omega),qa0 b (by omega),qa0 c (by omega),hg.right]
 simp only [ob_s]
 by_cases hid:1≤id∧id≤999
 ·rw [decide_eq_true hid]
  simp only [Bool.not_true,cond_false]
  cases ok with
  | false=>exact ⟨_,rfl⟩
  | true=>
  cases isWordP a with
  | false=>exact ⟨_,rfl⟩
  | true=>
  cases isWordP b with
  | false=>exact ⟨_,rfl⟩
  | true=>
  cases isWordP c with
  | false=>exact ⟨_,rfl⟩
  | true=>
  cases hr:rightE g with
  | false=>exact ⟨_,rfl⟩
  | true=>
  obtain ⟨bb,e1,e2⟩:=reff_ok ef hl hk
  simp only [Bool.not_true,cond_false,e1,ob_s]
  cases hbb:bb with
  | false=>exact ⟨_,rfl⟩
  | true=>
  obtain ⟨w,w1,w2⟩:=qdl id.toNat (by omega)
  rw [Int.toNat_of_nonneg (by omega)] at w1
  obtain ⟨u,u1,u2⟩:=print_ok g hg hr
  obtain ⟨z,z1,z2⟩:=peff_ok ef (e2 hbb) hk
  simp only [Bool.not_true,cond_false,w1,u1,z1,ob_s,qal,qaa,List.length_append,List.length_cons,List.length_nil]
  cases d == mt UInt8 with
  | true=>
    simp only [cond_true]
    rw [if_pos (by omega),if_pos (by omega),if_pos (by omega),if_pos (by omega),if_pos (by omega),if_pos (by omega),if_pos (by omega),if_pos (by omega),if_pos (by omega),if_pos (by omega),if_pos (by omega)]
    exact ⟨_,rfl⟩
  | false=>
    simp only [cond_false]
    rw [if_pos (by omega),if_pos (by omega),if_pos (by omega),if_pos (by omega),if_pos (by omega),if_pos (by omega),if_pos (by omega),if_pos (by omega),if_pos (by omega),if_pos (by omega),if_pos (by omega)]
    exact ⟨_,rfl⟩
 ·rw [decide_eq_false hid]
  exact ⟨_,rfl⟩
abbrev Trn:=Int×List UInt8×List UInt8×List UInt8×List UInt8×List Trm×List Eff
def okTr (t:Trn):Prop:=t.2.1.length≤60000∧t.2.2.1.length≤60000∧t.2.2.2.1.length≤60000∧t.2.2.2.2.1.length≤60000∧shortE t.2.2.2.2.2.1∧t.2.2.2.2.2.2.length≤100000∧∀ x∈t.2.2.2.2.2.2,okEf x
theorem qc4 (s:List UInt8) (hs:s.length≤60000):∃ id a b c d g ef ok,M89 s=some (id,a,b,c,d,g,ef,ok)∧okTr (id,a,b,c,d,g,ef):=by
 show ∃ id a b c d g ef ok,T89 Ops.std M87 M147 M106 M90 M86 M148 M149 M150 s some=some (id,a,b,c,d,g,ef,ok)∧_
 unfold T89
 have bad:∃ id a b c d g ef ok,(some ((0:Int),([]:List UInt8),([]:List UInt8),([]:List UInt8),([]:List UInt8),([]:List Trm),([]:List Eff),false))=some (id,a,b,c,d,g,ef,ok)∧okTr (id,a,b,c,d,g,ef):=
  ⟨_,_,_,_,_,_,_,_,rfl,by simp,by simp,by simp,by simp,qbn,by simp,fun x h=>by cases h⟩
 obtain ⟨w,w1,w2,w3⟩:=words_ok s hs
 rw [w1,ob_s]
 simp only [qad,qag,qak,qao,qaa,mt]
 by_cases h6:((w.length:Nat):Int)<6
 ·rw [if_pos h6];exact bad
 ·rw [if_neg h6,if_pos (by omega)]
  obtain ⟨n,ok,a1⟩:=qc3 (w.getD (Int.toNat 0) (Ty.dflt ty9)) false
  rw [a1,ob_s,if_pos (by omega),if_pos (by omega),if_pos (by omega),if_pos (by omega)]
  have g1:=w3.get (Int.toNat 1)
  have g2:=w3.get (Int.toNat 2)
  have g3:=w3.get (Int.toNat 3)
  have g4:=w3.get (Int.toNat 4)
  obtain ⟨r,r1,r2⟩:=skip_ok s hs 5 (by omega)
  have r1':M90 s 5=some r:=r1
  obtain ⟨l,l1,l2,l3,l4⟩:=cut_ok r (by omega) 59
  obtain ⟨e,x,g,p1,p2,p3⟩:=parse7_ok (l.getD (Int.toNat 0) (Ty.dflt ty9))
  obtain ⟨fine,ef,f1,f2,f3⟩:=effects_ok (List.drop (Int.toNat 1) (List.take l.length l)) (by simp;omega)
  have fin:∀ d:List UInt8,d.length≤60000→∃ s',M150 n (w.getD (Int.toNat 1) (Ty.dflt ty9)) (w.getD (Int.toNat 2) (Ty.dflt ty9)) (w.getD (Int.toNat 3) (Ty.dflt ty9)) d g ef=some s':=fun d hd=>
   printTrans_ok n _ _ _ d g ef (Nat.le_trans g1 hs) (Nat.le_trans g2 hs) (Nat.le_trans g3 hs) hd p2 (by simp at f2;omega) f3
  have good:∀ d:List UInt8,d.length≤60000→okTr (n,w.getD (Int.toNat 1) (Ty.dflt ty9),w.getD (Int.toNat 2) (Ty.dflt ty9),w.getD (Int.toNat 3) (Ty.dflt ty9),d,g,ef):=fun d hd=>
   ⟨Nat.le_trans g1 hs,Nat.le_trans g2 hs,Nat.le_trans g3 hs,hd,p2,by simp at f2;show ef.length≤100000;omega,f3⟩
  cases w.getD (Int.toNat 4) (Ty.dflt ty9) == ([45]:List UInt8) with
  | true=>
    simp only [cond_true]
    rw [r1',ob_s,l1,ob_s,if_pos (by omega),p1,ob_s,if_pos (by omega),f1,ob_s]
    dsimp only
    cases ok with
    | false=>exact bad
    | true=>
      simp only [Bool.not_true,cond_false]
      by_cases he:e=0
      ·rw [if_neg (fun h=>h he)]
       cases fine with
       | false=>exact bad
       | true=>
         simp only [Bool.not_true,cond_false]
         obtain ⟨s',q1⟩:=fin [] (by simp)
         rw [q1,ob_s]
         cases s' == ([]:List UInt8) with
         | true=>exact bad
         | false=>exact ⟨_,_,_,_,_,_,_,_,rfl,good [] (by simp)⟩
      ·rw [if_pos he];exact bad
  | false=>
    simp only [cond_false]
    obtain ⟨ch,cok,c1⟩:=qdm (w.getD (Int.toNat 4) (Ty.dflt ty9)) (by have:(w.getD (Int.toNat 4) (Ty.dflt ty9)).length≤s.length:=g4;omega)
    rw [c1,ob_s]
    dsimp only
    cases cok with
    | false=>exact bad
    | true=>
    simp only [Bool.not_true,cond_false]
    rw [r1',ob_s,l1,ob_s,if_pos (by omega),p1,ob_s,if_pos (by omega),f1,ob_s]
    dsimp only
    cases ok with
    | false=>exact bad
    | true=>
      simp only [Bool.not_true,cond_false]
      by_cases he:e=0
      ·rw [if_neg (fun h=>h he)]
       cases fine with
       | false=>exact bad
       | true=>
         simp only [Bool.not_true,cond_false]
         obtain ⟨s',q1⟩:=fin (w.getD (Int.toNat 4) (Ty.dflt ty9)) (Nat.le_trans g4 hs)
         rw [q1,ob_s]
         cases s' == ([]:List UInt8) with
         | true=>exact bad
         | false=>exact ⟨_,_,_,_,_,_,_,_,rfl,good _ (Nat.le_trans g4 hs)⟩
      ·rw [if_pos he];exact bad
abbrev Vrb:=List UInt8×Int×Int×Int
abbrev Pcs:=List UInt8×List (List UInt8)
section
variable (vs:List Vrb) (ps:List Pcs) (ts:List Trn)
theorem qd2 (hp:ps.length≤100000) (s:List UInt8):∀ (t i n:Nat),i+t=ps.length→t<n→∃ r,R105 vs ps ts s n (.l0 i)=some r∧(r = -1∨∃ k:Nat,k<ps.length∧r=(k:Int))
 | t,i,0,hi,hn=>by omega
 | 0,i,n+1,hi,hn=>by
   show ∃ r,T105 Ops.std vs ps ts s _ some _=some r∧_
   unfold T105
   simp only [qad,qaa]
   rw [if_neg (by omega)]
   exact ⟨_,rfl,.inl rfl⟩
 | t+1,i,n+1,hi,hn=>by
   have ih:=qd2 hp s t (i+1) n (by omega) (by omega)
   show ∃ r,T105 Ops.std vs ps ts s _ some _=some r∧_
   unfold T105
   simp only [qad,qag,qaa,qab,show IntKind.wrap IntKind.i64 ((i:Int)+1)=((i+1:Nat):Int) from qaf (by omega)]
   rw [if_pos (by omega),if_pos (by omega)]
   cases (ps.getD i (Ty.dflt ty98)).1 == s with
   | true=>exact ⟨_,rfl,.inr ⟨i,by omega,rfl⟩⟩
   | false=>exact ih
theorem qdn (hp:ps.length≤100000) (s:List UInt8):∃ r,M105 vs ps ts s=some r∧(r = -1∨∃ k:Nat,k<ps.length∧r=(k:Int)):=by
 show ∃ r,T105 Ops.std vs ps ts s (R105 vs ps ts s 1000000) some none=some r∧_
 unfold T105
 exact qd2 vs ps ts hp s ps.length 0 1000000 (by omega) (by omega)
theorem qc5 (hv:vs.length≤100000) (s:List UInt8):∀ (t i n:Nat),i+t=vs.length→t<n→∃ r,R109 vs ps ts s n (.l0 i)=some r∧(r = -1∨∃ k:Nat,k<vs.length∧r=(k:Int))
 | t,i,0,hi,hn=>by omega
 | 0,i,n+1,hi,hn=>by
   show ∃ r,T109 Ops.std vs ps ts s _ some _=some r∧_
   unfold T109
   simp only [qad,qaa]
   rw [if_neg (by omega)]
   exact ⟨_,rfl,.inl rfl⟩
 | t+1,i,n+1,hi,hn=>by
   have ih:=qc5 hv s t (i+1) n (by omega) (by omega)
   show ∃ r,T109 Ops.std vs ps ts s _ some _=some r∧_
   unfold T109
   simp only [qad,qag,qaa,qab,show IntKind.wrap IntKind.i64 ((i:Int)+1)=((i+1:Nat):Int) from qaf (by omega)]
   rw [if_pos (by omega),if_pos (by omega)]
   cases (vs.getD i (Ty.dflt ty94)).1 == s with
   | true=>exact ⟨_,rfl,.inr ⟨i,by omega,rfl⟩⟩
   | false=>exact ih
theorem qcs (hv:vs.length≤100000) (s:List UInt8):∃ r,M109 vs ps ts s=some r∧(r = -1∨∃ k:Nat,k<vs.length∧r=(k:Int)):=by
 show ∃ r,T109 Ops.std vs ps ts s (R109 vs ps ts s 1000000) some none=some r∧_
 unfold T109
 exact qc5 vs ps ts hv s vs.length 0 1000000 (by omega) (by omega)
def okLocs (ps:List Pcs):Prop:=∀ p∈ps,p.2.length≤100000
theorem okLocs.get {ps:List Pcs} (h:okLocs ps) (k:Nat) (hk:k<ps.length):(ps.getD k (Ty.dflt ty98)).2.length≤100000:=by
 rw [List.getD_eq_getElem?_getD,List.getElem?_eq_getElem hk];exact h _ (List.getElem_mem hk)
theorem qfu (hl:okLocs ps) (p:Nat) (hp:p<ps.length) (s:List UInt8):∀ (t i n:Nat),i+t=(ps.getD p (Ty.dflt ty98)).2.length→t<n→∃ r,R108 vs ps ts p s n (.l0 i)=some r∧(r = -1∨∃ k:Nat,k<(ps.getD p (Ty.dflt ty98)).2.length∧r=(k:Int))
 | t,i,0,hi,hn=>by omega
 | 0,i,n+1,hi,hn=>by
   show ∃ r,T108 Ops.std vs ps ts p s _ some _=some r∧_
   unfold T108
   simp only [qad,qag,qaa,qab]
   rw [if_pos (by omega),if_neg (by omega)]
   exact ⟨_,rfl,.inl rfl⟩
 | t+1,i,n+1,hi,hn=>by
   have ih:=qfu hl p hp s t (i+1) n (by omega) (by omega)
   have hg:=hl.get p hp
   show ∃ r,T108 Ops.std vs ps ts p s _ some _=some r∧_
   unfold T108
   simp only [qad,qag,qaa,qab,show IntKind.wrap IntKind.i64 ((i:Int)+1)=((i+1:Nat):Int) from qaf (by omega)]
   rw [if_pos (by omega),if_pos (by omega),if_pos (by omega),if_pos (by omega)]
   generalize ((ps.getD p (Ty.dflt ty98)).2.getD i (Ty.dflt Ty.str) == s)=b
   cases b with
   | true=>exact ⟨_,rfl,.inr ⟨i,by omega,rfl⟩⟩
   | false=>exact ih
theorem qec (hl:okLocs ps) (p:Int) (hp:p = -1∨∃ k:Nat,k<ps.length∧p=(k:Int)) (s:List UInt8):∃ r,M108 vs ps ts p s=some r∧(0≤r→∃ q:Nat,q<ps.length∧p=(q:Int)):=by
 show ∃ r,T108 Ops.std vs ps ts p s (R108 vs ps ts p s 1000000) some none=some r∧_
 unfold T108
 simp only [qad,qaa]
 rcases hp with rfl | ⟨k,hk,rfl⟩
 ·rw [if_pos (by decide)];exact ⟨_,rfl,fun h=>by omega⟩
 ·rw [if_neg (by omega)]
  obtain ⟨r,h1,h2⟩:=qfu vs ps ts hl k hk s (ps.getD k (Ty.dflt ty98)).2.length 0 1000000 (by omega) (by have:=hl.get k hk;omega)
  exact ⟨r,h1,fun _=>⟨k,hk,rfl⟩⟩
structure smallG:Prop where
 v:vs.length≤100000
 p:ps.length≤100000
 l:okLocs ps
variable {vs ps}
def knE (vs:List Vrb) (ps:List Pcs) (ts:List Trn) (t:Trm):Prop:=
 (t.1=2→∃ k:Nat,k<vs.length∧M109 vs ps ts t.2.2.1=some (k:Int))∧
 (t.1=3→∃ (q:Nat) (r:Int),q<ps.length∧M105 vs ps ts t.2.2.1=some (q:Int)∧M108 vs ps ts (q:Int) t.2.2.2=some r)
theorem qfv (hg:smallG vs ps) (e:List Trm) (he:shortE e):∀ (t i n:Nat),i+t=e.length→t<n→(∀ x∈e.take i,knE vs ps ts x)→∃ b,R62 M109 M105 M108 M110 vs ps ts e n (.l0 i)=some b∧(b=true→rightE e=true∧∀ x∈e,knE vs ps ts x)
 | t,i,0,hi,hn,hk=>by omega
 | 0,i,n+1,hi,hn,hk=>by
   show ∃ b,T62 Ops.std _ _ _ _ vs ps ts e _ some _=some b∧_
   unfold T62
   simp only [qad,qaa]
   rw [if_neg (by omega),he.right,ob_s]
   refine ⟨_,rfl,fun h=>⟨h,?_⟩⟩
   rwa [List.take_of_length_le (by omega)] at hk
 | t+1,i,n+1,hi,hn,hk=>by
   have ih:=qfv hg e he t (i+1) n (by omega) (by omega)
   have h30:=he.1
   obtain ⟨x,hx⟩:∃ x,e.getD i (Ty.dflt ty150)=x:=⟨_,rfl⟩
   have htk:e.take (i+1)=e.take i++[x]:=by
    rw [List.take_succ_eq_append_getElem (by omega)]
    rw [List.getD_eq_getElem?_getD,List.getElem?_eq_getElem (by omega)] at hx
    rw [←hx];rfl
   have nxt:knE vs ps ts x→∀ y∈e.take (i+1),knE vs ps ts y:=fun h y hy=>by
    rw [htk] at hy
    rcases List.mem_append.1 hy with hy | hy
    ·exact hk y hy
    ·simp only [List.mem_singleton] at hy;rw [hy];exact h
   show ∃ b,T62 Ops.std _ _ _ _ vs ps ts e _ some _=some b∧_
   unfold T62
   simp only [qad,qag,qak,qaa,qab,hx,show IntKind.wrap IntKind.i64 ((i:Int)+1)=((i+1:Nat):Int) from qaf (by omega)]
   rw [if_pos (by omega),if_pos (by omega)]
   obtain ⟨r,r1,r2⟩:=qcs vs ps ts hg.v x.2.2.1
   obtain ⟨q,q1,q2⟩:=qdn vs ps ts hg.p x.2.2.1
   obtain ⟨z,z1,z2⟩:=qec vs ps ts hg.l q q2 x.2.2.2
   by_cases h2:x.1=2
   ·rw [if_pos h2,if_pos (by omega),r1,ob_s]
    by_cases hr:r<0
    ·rw [if_pos hr];exact ⟨_,rfl,fun h=>by cases h⟩
    ·rw [if_neg hr,if_pos (by omega),if_neg (by omega)]
     refine ih (nxt ⟨fun _=>?_,fun h=>by omega⟩)
     rcases r2 with rfl | ⟨k,hk1,rfl⟩
     ·omega
     ·exact ⟨k,hk1,r1⟩
   ·rw [if_neg h2,if_pos (by omega)]
    by_cases h3:x.1=3
    ·rw [if_pos h3,if_pos (by omega),if_pos (by omega),q1,ob_s,z1,ob_s]
     by_cases hz:z<0
     ·rw [if_pos hz];exact ⟨_,rfl,fun h=>by cases h⟩
     ·rw [if_neg hz]
      obtain ⟨q',hq',rfl⟩:=z2 (by omega)
      exact ih (nxt ⟨fun h=>by omega,fun _=>⟨q',z,hq',q1,z1⟩⟩)
    ·rw [if_neg h3]
     exact ih (nxt ⟨fun h=>absurd h h2,fun h=>absurd h h3⟩)
theorem qc6 (hg:smallG vs ps) (e:List Trm) (he:shortE e):∃ b,M62 vs ps ts e=some b∧(b=true→rightE e=true∧∀ x∈e,knE vs ps ts x):=by
 show ∃ b,T62 Ops.std M109 M105 M108 M110 vs ps ts e (R62 M109 M105 M108 M110 vs ps ts e 1000000) some none=some b∧_
 unfold T62
 exact qfv ts hg e he e.length 0 1000000 (by omega) (by have:=he.1;omega) (fun x h=>by simp at h)
end
theorem qdo (l:List (List UInt8)) (hl:l.length≤6):∀ (f i j n:Nat),10*(l.length-i)+(l.length-j)+1≤f→f≤n→i≤l.length→j≤i→i<l.length→∃ b,R60 l n (.l1 i j)=some b
 | f,i,j,0,hf,hn,hi,hj,hil=>by omega
 | f,i,j,n+1,hf,hn,hi,hj,hil=>by
   show ∃ b,T60 Ops.std l _ some _=some b
   unfold T60
   simp only [qad,qag,qaa,qab,show IntKind.wrap IntKind.i64 ((i:Int)+1)=((i+1:Nat):Int) from qaf (by omega),show IntKind.wrap IntKind.i64 ((j:Int)+1)=((j+1:Nat):Int) from qaf (by omega)]
   by_cases h:j<i
   ·rw [if_pos (by omega),if_pos (by omega),if_pos (by omega)]
    generalize (l.getD i (Ty.dflt ty9) == l.getD j (Ty.dflt ty9))=b
    cases b with
    | true=>exact ⟨_,rfl⟩
    | false=>exact qdo l hl (f-1) i (j+1) n (by omega) (by omega) hi (by omega) hil
   ·rw [if_neg (by omega)]
    obtain ⟨m,rfl⟩:∃ m,n=m+1:=⟨n-1,by omega⟩
    show ∃ b,T60 Ops.std l _ some _=some b
    unfold T60
    simp only [qad,qaa]
    by_cases h2:i+1<l.length
    ·rw [if_pos (by omega)]
     exact qdo l hl (f-2) (i+1) 0 m (by omega) (by omega) (by omega) (by omega) h2
    ·rw [if_neg (by omega)];exact ⟨_,rfl⟩
theorem twice_ok (l:List (List UInt8)) (hl:l.length≤6):∃ b,M60 l=some b:=by
 show ∃ b,T60 Ops.std l (R60 l 1000000) some none=some b
 unfold T60
 show ∃ b,T60 Ops.std l (R60 l 999999) some _=some b
 unfold T60
 simp only [qad,qaa]
 by_cases h:0<l.length
 ·rw [if_pos (by omega)]
  exact qdo l hl 100 0 0 999999 (by omega) (by omega) (by omega) (by omega) h
 ·rw [if_neg (by omega)];exact ⟨_,rfl⟩
theorem take_ext {α:Type} {P:α→Prop} {l:List α} {i:Nat} (hi:i<l.length) (d:α) (h:∀ x∈l.take i,P x) (hx:P (l.getD i d)):∀ x∈l.take (i+1),P x:=by
 intro x hm
 rw [List.take_succ_eq_append_getElem hi] at hm
 rcases List.mem_append.1 hm with hm | hm
 ·exact h x hm
 ·simp only [List.mem_singleton] at hm
  rw [hm]
  rw [List.getD_eq_getElem?_getD,List.getElem?_eq_getElem hi] at hx
  exact hx
theorem qav {α:Type} {l:List α} {i:Nat} (hi:i<l.length) (d:α):l.getD i d∈l:=by
 rw [List.getD_eq_getElem?_getD,List.getElem?_eq_getElem hi];exact List.getElem_mem hi
structure smallM (vs:List Vrb) (ps:List Pcs) (ts:List Trn):Prop where
 vl:vs.length≤5001
 v:∀ v∈vs,v.1.length≤60000
 pl:ps.length≤5001
 p:∀ p∈ps,p.1.length≤60000∧p.2.length≤60001∧okL 60000 p.2
 tl:ts.length≤5001
 t:∀ t∈ts,okTr t
theorem smallM.g {vs:List Vrb} {ps:List Pcs} {ts:List Trn} (h:smallM vs ps ts):smallG vs ps:=⟨by have:=h.vl;omega,by have:=h.pl;omega,fun p hp=>by have:=(h.p p hp).2.1;omega⟩
def okVar (v:Vrb):Prop:=v.2.1≤v.2.2.2∧v.2.2.2≤v.2.2.1∧-999≤v.2.1∧v.2.2.1≤999
structure goodM (vs:List Vrb) (ps:List Pcs):Prop where
 vl:vs.length≤4
 v:∀ v∈vs,okVar v
 pl:ps.length≤3
 p:∀ p∈ps,1≤p.2.length∧p.2.length≤6
section
variable {vs:List Vrb} {ps:List Pcs} {ts:List Trn} (hM:smallM vs ps ts)
noncomputable abbrev rtR (vs:List Vrb) (ps:List Pcs) (ts:List Trn) (id:Int) (a b c d:List UInt8) (g:List Trm) (ef:List Eff):=R61 M105 M106 M107 M108 M62 M109 vs ps ts id a b c d g ef
include hM in
theorem rt_loop (id:Int) (a b c d:List UInt8) (g:List Trm) (ef:List Eff) (hl:ef.length≤3) (hk:∀ x∈ef,okEf x):∀ (t i n:Nat),i+t=ef.length→t<n→∃ r,rtR vs ps ts id a b c d g ef n (.l0 i)=some r
 | t,i,0,hi,hn=>by omega
 | 0,i,n+1,hi,hn=>by
   show ∃ r,T61 Ops.std _ _ _ _ _ _ vs ps ts id a b c d g ef _ some _=some r
   unfold T61
   simp only [qad,qaa]
   rw [if_neg (by omega)]
   exact ⟨_,rfl⟩
 | t+1,i,n+1,hi,hn=>by
   have ih:=rt_loop id a b c d g ef hl hk t (i+1) n (by omega) (by omega)
   have hx:=hk _ (qav (show i<ef.length by omega) (Ty.dflt ty157))
   show ∃ r,T61 Ops.std _ _ _ _ _ _ vs ps ts id a b c d g ef _ some _=some r
   unfold T61
   obtain ⟨r,r1,_⟩:=qcs vs ps ts hM.g.v (ef.getD i (Ty.dflt ty157)).1
   obtain ⟨q,q1,_⟩:=qc6 ts hM.g (ef.getD i (Ty.dflt ty157)).2 hx.short
   simp only [qad,qag,qaa,qab,r1,q1,ob_s,show IntKind.wrap IntKind.i64 ((i:Int)+1)=((i+1:Nat):Int) from qaf (by omega)]
   rw [if_pos (by omega),if_pos (by omega)]
   by_cases hr:r<0
   ·rw [if_pos hr];exact ⟨_,rfl⟩
   ·rw [if_neg hr,if_pos (by omega)]
    cases q with
    | false=>exact ⟨_,rfl⟩
    | true=>exact ih
include hM in
theorem rt_ok (t:Trn) (ht:okTr t):∃ r,M61 vs ps ts t.1 t.2.1 t.2.2.1 t.2.2.2.1 t.2.2.2.2.1 t.2.2.2.2.2.1 t.2.2.2.2.2.2=some r:=by
 obtain ⟨id,a,b,c,d,g,ef⟩:=t
 obtain ⟨h1,h2,h3,h4,h5,h6,h7⟩:=ht
 show ∃ r,T61 Ops.std M105 M106 M107 M108 M62 M109 vs ps ts id a b c d g ef (rtR vs ps ts id a b c d g ef 1000000) some none=some r
 unfold T61
 obtain ⟨p,p1,p2⟩:=qdn vs ps ts hM.g.p a
 obtain ⟨ch,ok,c1⟩:=qdm d (by simp only at h4;omega)
 obtain ⟨x,x1,_⟩:=qec vs ps ts hM.g.l p p2 b
 obtain ⟨y,y1,_⟩:=qec vs ps ts hM.g.l p p2 c
 obtain ⟨q,q1,_⟩:=qc6 ts hM.g g h5
 simp only [p1,c1,id_ok,x1,y1,q1,ob_s,qad,qaa]
 cases decide (1≤id∧id≤999) with
 | false=>exact ⟨_,rfl⟩
 | true=>
 cases ok with
 | false=>exact ⟨_,rfl⟩
 | true=>
 simp only [Bool.not_true,cond_false]
 by_cases hx:x<0
 ·rw [if_pos hx];exact ⟨_,rfl⟩
 ·rw [if_neg hx]
  by_cases hy:y<0
  ·rw [if_pos hy];exact ⟨_,rfl⟩
  ·rw [if_neg hy]
   cases q with
   | false=>exact ⟨_,rfl⟩
   | true=>
   simp only [Bool.not_true,cond_false]
   by_cases h3:(3:Int)<((ef.length:Nat):Int)
   ·rw [if_pos h3];exact ⟨_,rfl⟩
   ·rw [if_neg h3]
    exact rt_loop hM id a b c d g ef (by omega) h7 ef.length 0 1000000 (by omega) (by omega)
noncomputable abbrev rmR (vs:List Vrb) (ps:List Pcs) (ts:List Trn):=R18 M58 M59 M60 M61 vs ps ts
include hM in
theorem rm_l3 (h16:ts.length≤16):∀ (t i n:Nat),i+t=ts.length→2*t<n→∃ r,rmR vs ps ts n (.l3 i)=some r
 | t,i,0,hi,hn=>by omega
 | 0,i,n+1,hi,hn=>by
   show ∃ r,T18 Ops.std _ _ _ _ vs ps ts _ some _=some r
   unfold T18
   simp only [qad,qaa]
   rw [if_neg (by omega)]
   exact ⟨_,rfl⟩
 | t+1,i,n+1,hi,hn=>by
   obtain ⟨m,rfl⟩:∃ m,n=m+1:=⟨n-1,by omega⟩
   have ih:=rm_l3 h16 t (i+1) m (by omega) (by omega)
   have h25:rmR vs ps ts (m+1) (.l1025 i)=rmR vs ps ts m (.l3 ((i+1:Nat):Int)):=by
    show T18 Ops.std _ _ _ _ vs ps ts _ some _=_
    unfold T18
    simp only [show IntKind.wrap IntKind.i64 ((i:Int)+1)=((i+1:Nat):Int) from qaf (by omega)]
   obtain ⟨r,r1⟩:=rt_ok hM (ts.getD i (Ty.dflt ty103)) (hM.t _ (qav (by omega) _))
   show ∃ r,T18 Ops.std _ _ _ _ vs ps ts _ some _=some r
   unfold T18
   simp only [qad,qas,qag,qaa,qab,r1,ob_s]
   rw [if_pos (by omega),if_pos (by omega)]
   cases r with
   | false=>exact ⟨_,rfl⟩
   | true=>
   simp only [Bool.not_true,cond_false]
   by_cases h0:(0:Int)<(i:Int)
   ·rw [if_pos h0,if_pos (by omega),show IntKind.wrap IntKind.i64 ((i:Int)-1)=((i-1:Nat):Int) by rw [wrap64 (by omega) (by omega)];omega,if_pos (by omega)]
    split
    ·exact ⟨_,rfl⟩
    ·obtain ⟨r,hr⟩:=ih;exact ⟨r,h25.trans hr⟩
   ·rw [if_neg h0];obtain ⟨r,hr⟩:=ih;exact ⟨r,h25.trans hr⟩
theorem rm_l2 (Q:Bool→Prop) (hQ:Q false) (i:Nat) (hi:i<100000) (vn pn:List (List UInt8)) (nm:List UInt8) (locs:List (List UInt8)) (hl:locs.length≤6) (hk:okL 60000 locs) (N:Nat) (hc:∀ m,N≤m→∃ r,rmR vs ps ts m (.l1 ((i+1:Nat):Int) vn pn)=some r∧Q r) :
  ∀ (t j n:Nat),j+t=locs.length→N+t<n→∃ r,rmR vs ps ts n (.l2 i j vn pn nm locs)=some r∧Q r
 | t,j,0,hj,hn=>by omega
 | 0,j,n+1,hj,hn=>by
   show ∃ r,T18 Ops.std _ _ _ _ vs ps ts _ some _=some r∧_
   unfold T18
   simp only [qad,qaa,show IntKind.wrap IntKind.i64 ((i:Int)+1)=((i+1:Nat):Int) from qaf (by omega)]
   rw [if_neg (by omega)]
   exact hc n (by omega)
 | t+1,j,n+1,hj,hn=>by
   have ih:=rm_l2 Q hQ i hi vn pn nm locs hl hk N hc t (j+1) n (by omega) (by omega)
   show ∃ r,T18 Ops.std _ _ _ _ vs ps ts _ some _=some r∧_
   unfold T18
   have hlen:=hk.get j
   simp only [qad,qag,qaa,qab,show IntKind.wrap IntKind.i64 ((j:Int)+1)=((j+1:Nat):Int) from qaf (by omega)]
   rw [if_pos (by omega),if_pos (by omega),qa0 _ (by have:(locs.getD j (Ty.dflt ty9)).length≤60000:=hlen;omega),ob_s]
   cases isWordP (locs.getD j (Ty.dflt ty9)) with
   | false=>exact ⟨false,rfl,hQ⟩
   | true=>exact ih
include hM in
theorem rm_l1 (hv:vs.length≤4→∀ v∈vs,okVar v):∀ (t i n:Nat) (vn pn:List (List UInt8)),i+t=ps.length→12*t+100<n→vn.length=vs.length→pn.length=i→(∀ p∈ps.take i,1≤p.2.length∧p.2.length≤6)→∃ r,rmR vs ps ts n (.l1 i vn pn)=some r∧(r=true→goodM vs ps)
 | t,i,0,vn,pn,hi,hn,h1,h2,hk=>by omega
 | 0,i,n+1,vn,pn,hi,hn,h1,h2,hk=>by
   show ∃ r,T18 Ops.std _ _ _ _ vs ps ts _ some _=some r∧_
   unfold T18
   simp only [qad,qaa]
   rw [if_neg (by omega)]
   have bad:∃ r:Bool,(some false:Option Bool)=some r∧(r=true→goodM vs ps):=⟨false,rfl,fun h=>by cases h⟩
   by_cases c1:(4:Int)<((vn.length:Nat):Int)
   ·rw [if_pos c1];exact bad
   ·rw [if_neg c1]
    by_cases c2:((pn.length:Nat):Int)<1
    ·rw [if_pos c2];exact bad
    ·rw [if_neg c2]
     by_cases c3:(3:Int)<((pn.length:Nat):Int)
     ·rw [if_pos c3];exact bad
     ·rw [if_neg c3]
      by_cases c4:(16:Int)<((ts.length:Nat):Int)
      ·rw [if_pos c4];exact bad
      ·rw [if_neg c4]
       obtain ⟨x,x1⟩:=twice_ok vn (by omega)
       obtain ⟨y,y1⟩:=twice_ok pn (by omega)
       rw [x1,ob_s]
       cases x with
       | true=>exact bad
       | false=>
       simp only [cond_false]
       rw [y1,ob_s]
       cases y with
       | true=>exact bad
       | false=>
       simp only [cond_false]
       obtain ⟨m,rfl⟩:∃ m,n=m+1:=⟨n-1,by omega⟩
       have h23:rmR vs ps ts (m+1) .l1023=rmR vs ps ts m (.l3 0):=rfl
       obtain ⟨r,r1⟩:=rm_l3 hM (by omega) ts.length 0 m (by omega) (by omega)
       refine ⟨r,h23.trans r1,fun _=>⟨by omega,hv (by omega),by omega,?_⟩⟩
       rwa [List.take_of_length_le (by omega)] at hk
 | t+1,i,n+1,vn,pn,hi,hn,h1,h2,hk=>by
   have hpl:=hM.pl
   have hx:=hM.p _ (qav (show i<ps.length by omega) (Ty.dflt ty98))
   have bad:∃ r:Bool,(some false:Option Bool)=some r∧(r=true→goodM vs ps):=⟨false,rfl,fun h=>by cases h⟩
   show ∃ r,T18 Ops.std _ _ _ _ vs ps ts _ some _=some r∧_
   unfold T18
   simp only [qad,qag,qal,qaa,qab,mt,List.length_cons,List.length_nil]
   rw [if_pos (by omega),if_pos (by omega),if_pos (by omega),qa0 _ (by have:=hx.1;omega),ob_s]
   cases isWordP (ps.getD i (Ty.dflt ty98)).1 with
   | false=>exact bad
   | true=>
   simp only [Bool.not_true,cond_false]
   by_cases c1:(((ps.getD i (Ty.dflt ty98)).2.length:Nat):Int)<1
   ·rw [if_pos c1];exact bad
   ·rw [if_neg c1]
    by_cases c2:(6:Int)<(((ps.getD i (Ty.dflt ty98)).2.length:Nat):Int)
    ·rw [if_pos c2];exact bad
    ·rw [if_neg c2]
     obtain ⟨x,x1⟩:=twice_ok (ps.getD i (Ty.dflt ty98)).2 (by omega)
     rw [x1,ob_s]
     cases x with
     | true=>exact bad
     | false=>
     simp only [cond_false]
     obtain ⟨m,rfl⟩:∃ m,n=m+1:=⟨n-1,by omega⟩
     have h16:∀ vn pn nm locs,rmR vs ps ts (m+1) (.l1016 i vn pn nm locs)=rmR vs ps ts m (.l2 i 0 vn pn nm locs):=fun _ _ _ _=>rfl
     obtain ⟨r,r1,r2⟩:=rm_l2 (ts:=ts) (fun r=>r=true→goodM vs ps) (fun h=>by cases h) i (by omega) vn (pn++[(ps.getD i (Ty.dflt ty98)).1]) (ps.getD i (Ty.dflt ty98)).1 (ps.getD i (Ty.dflt ty98)).2 (by omega) hx.2.2 (12*t+101)
      (fun k hkk=>rm_l1 hv t (i+1) k vn (pn++[(ps.getD i (Ty.dflt ty98)).1]) (by omega) (by omega) h1 (by simp;omega) (take_ext (by omega) (Ty.dflt ty98) hk ⟨by omega,by omega⟩)) _ 0 m (Nat.zero_add _) (by omega)
     exact ⟨r,(h16 _ _ _ _).trans r1,r2⟩
include hM in
theorem rm_l0:∀ (t i n:Nat) (vn:List (List UInt8)),i+t=vs.length→2*t+70000<n→vn.length=i→(∀ v∈vs.take i,okVar v)→∃ r,rmR vs ps ts n (.l0 i vn)=some r∧(r=true→goodM vs ps)
 | t,i,0,vn,hi,hn,h1,hk=>by omega
 | 0,i,n+1,vn,hi,hn,h1,hk=>by
   have hpl:=hM.pl
   show ∃ r,T18 Ops.std _ _ _ _ vs ps ts _ some _=some r∧_
   unfold T18
   simp only [qad,qaa]
   rw [if_neg (by omega)]
   rw [List.take_of_length_le (by omega)] at hk
   exact rm_l1 hM (fun _=>hk) ps.length 0 n vn [] (by omega) (by omega) (by omega) rfl (fun p h=>by simp at h)
 | t+1,i,n+1,vn,hi,hn,h1,hk=>by
   have hvl:=hM.vl
   obtain ⟨m,rfl⟩:∃ m,n=m+1:=⟨n-1,by omega⟩
   have h04:∀ vn,rmR vs ps ts (m+1) (.l1004 i vn)=rmR vs ps ts m (.l0 ((i+1:Nat):Int) vn):=fun vn=>by
    show T18 Ops.std _ _ _ _ vs ps ts _ some _=_
    unfold T18
    simp only [show IntKind.wrap IntKind.i64 ((i:Int)+1)=((i+1:Nat):Int) from qaf (by omega)]
   have hx:=hM.v _ (qav (show i<vs.length by omega) (Ty.dflt ty94))
   have bad:∃ r:Bool,(some false:Option Bool)=some r∧(r=true→goodM vs ps):=⟨false,rfl,fun h=>by cases h⟩
   have ih:=rm_l0 t (i+1) m
   show ∃ r,T18 Ops.std _ _ _ _ vs ps ts _ some _=some r∧_
   unfold T18
   obtain ⟨x,hxe⟩:∃ x,vs.getD i (Ty.dflt ty94)=x:=⟨_,rfl⟩
   rw [hxe] at hx
   simp only [qad,qag,qal,qaa,qab,mt,List.length_cons,List.length_nil,hxe,w999_ok,ob_s]
   rw [if_pos (by omega),if_pos (by omega),if_pos (by omega),qa0 _ (by omega),ob_s]
   cases isWordP x.1 with
   | false=>exact bad
   | true=>
   simp only [Bool.not_true,cond_false,qao,qaa]
   by_cases c1:x.2.2.2<x.2.1
   ·rw [if_pos c1];exact bad
   ·rw [if_neg c1]
    by_cases c2:x.2.2.1<x.2.2.2
    ·rw [if_pos c2];exact bad
    ·rw [if_neg c2]
     by_cases c3:-999≤x.2.1∧x.2.1≤999
     ·rw [if_neg (fun h=>h c3)]
      by_cases c4:-999≤x.2.2.1∧x.2.2.1≤999
      ·rw [if_neg (fun h=>h c4)]
       obtain ⟨r,r1,r2⟩:=ih (vn++[x.1]) (by omega) (by omega) (by simp;omega) (take_ext (by omega) (Ty.dflt ty94) hk (by rw [hxe];exact ⟨by omega,by omega,c3.1,c4.2⟩))
       exact ⟨r,(h04 _).trans r1,r2⟩
      ·rw [if_pos c4];exact bad
     ·rw [if_pos c3];exact bad
include hM in
theorem qbx:∃ r,M18 vs ps ts=some r∧(r=true→goodM vs ps):=by
 have hvl:=hM.vl
 show ∃ r,T18 Ops.std M58 M59 M60 M61 vs ps ts (rmR vs ps ts 1000000) some none=some r∧_
 unfold T18
 exact rm_l0 hM vs.length 0 1000000 [] (by omega) (by omega) rfl (fun v h=>by simp at h)
end
theorem smallM_nil:smallM [] [] []:=⟨by simp,fun v h=>(by cases h),by simp,fun v h=>(by cases h),by simp,fun v h=>by cases h⟩
def rightOr (vs:List Vrb) (ps:List Pcs) (ts:List Trn):Prop:=smallM vs ps ts∧((M18 vs ps ts=some true∧goodM vs ps)∨(vs=[]∧ps=[]∧ts=[]))
theorem qe0:rightOr [] [] []:=⟨smallM_nil,.inr ⟨rfl,rfl,rfl⟩⟩
noncomputable abbrev pmR (s:List UInt8):=R47 M86 M87 M88 M90 M89 M18 s
structure soFar (vs:List Vrb) (ps:List Pcs) (ts:List Trn) (i:Nat):Prop where
 vl:vs.length≤i
 v:∀ v∈vs,v.1.length≤60000
 pl:ps.length≤i
 p:∀ p∈ps,p.1.length≤60000∧p.2.length≤60001∧okL 60000 p.2
 tl:ts.length≤i
 t:∀ t∈ts,okTr t
theorem qdp {α:Type} {P:α→Prop} {l:List α} {x:α} (h:∀ y∈l,P y) (hx:P x):∀ y∈l++[x],P y:=fun y hy=>by
 rcases List.mem_append.1 hy with hy | hy
 ·exact h y hy
 ·simp only [List.mem_singleton] at hy;rw [hy];exact hx
theorem pm_loop (s:List UInt8) (L:List (List UInt8)) (hL:L.length≤5001) (hk:okL 5000 L):∀ (t i n:Nat) (st:Int) (vs:List Vrb) (ps:List Pcs) (ts:List Trn),i+t=L.length→t<n→soFar vs ps ts i→
  ∃ vs' ps' ts' e x,pmR s n (.l0 st i L vs ps ts)=some (vs',ps',ts',e,x)∧rightOr vs' ps' ts'
 | t,i,0,st,vs,ps,ts,hi,hn,hs=>by omega
 | 0,i,n+1,st,vs,ps,ts,hi,hn,hs=>by
   have bad:∃ vs' ps' ts' e x,(some (([]:List Vrb),([]:List Pcs),([]:List Trn),(2:Int),(0:Int)))=some (vs',ps',ts',e,x)∧rightOr vs' ps' ts':=⟨_,_,_,_,_,rfl,qe0⟩
   have hM:smallM vs ps ts:=⟨by have:=hs.vl;omega,hs.v,by have:=hs.pl;omega,hs.p,by have:=hs.tl;omega,hs.t⟩
   show ∃ vs' ps' ts' e x,T47 Ops.std _ _ _ _ _ _ s _ some _=some (vs',ps',ts',e,x)∧_
   unfold T47
   simp only [qad,qaa]
   rw [if_neg (by omega)]
   obtain ⟨r,r1,r2⟩:=qbx hM
   rw [r1,ob_s]
   cases r with
   | false=>exact bad
   | true=>exact ⟨_,_,_,_,_,rfl,hM,.inl ⟨r1,r2 rfl⟩⟩
 | t+1,i,n+1,st,vs,ps,ts,hi,hn,hs=>by
   have ih:=fun st vs ps ts=>pm_loop s L hL hk t (i+1) n st vs ps ts (by omega) (by omega)
   have hmono:soFar vs ps ts (i+1):=⟨by have:=hs.vl;omega,hs.v,by have:=hs.pl;omega,hs.p,by have:=hs.tl;omega,hs.t⟩
   have bad:∀ k:Int,∃ vs' ps' ts' e x,(some (([]:List Vrb),([]:List Pcs),([]:List Trn),(2:Int),k))=some (vs',ps',ts',e,x)∧rightOr vs' ps' ts':=fun k=>⟨_,_,_,_,_,rfl,qe0⟩
   have hvl:=hs.vl
   have hpl:=hs.pl
   have htl:=hs.tl
   show ∃ vs' ps' ts' e x,T47 Ops.std _ _ _ _ _ _ s _ some _=some (vs',ps',ts',e,x)∧_
   unfold T47
   have hlen:(L.getD i (Ty.dflt ty9)).length≤5000:=hk.get i
   simp only [qad,qag,qal,qao,qaa,qab,mt,List.length_cons,List.length_nil,show IntKind.wrap IntKind.i64 ((i:Int)+1)=((i+1:Nat):Int) from qaf (by omega)]
   rw [if_pos (by omega),if_pos (by omega)]
   cases (L.getD i (Ty.dflt ty9)) == ([]:List UInt8) with
   | true=>exact ih st vs ps ts hmono
   | false=>
   simp only [cond_false]
   rw [if_pos (by omega)]
   obtain ⟨w,w1,w2,w3⟩:=words_ok (L.getD i (Ty.dflt ty9)) (by omega)
   rw [w1,ob_s]
   have w3':okL 60000 w:=fun x hx=>by have:=w3 x hx;omega
   by_cases h0:(0:Int)<((w.length:Nat):Int)
   ·rw [if_pos h0,if_pos (by omega)]
    cases (w.getD (Int.toNat 0) (Ty.dflt ty9)) == ([118,97,114]:List UInt8) with
    | true=>
      simp only [cond_true]
      obtain ⟨nm,lo,hi',ini,ok,v1,v2⟩:=qez (List.drop (Int.toNat 1) (List.take w.length w)) 60000 (fun x hx=>w3' x (List.mem_of_mem_take (List.mem_of_mem_drop hx)))
      rw [if_pos (by omega),v1,ob_s]
      dsimp only
      rw [if_pos (by omega)]
      cases ok with
      | false=>exact bad _
      | true=>
      simp only [Bool.not_true,cond_false]
      split
      ·exact bad _
      ·exact ih _ _ _ _ ⟨by simp;omega,qdp hs.v v2,by omega,hs.p,by omega,hs.t⟩
    | false=>
    simp only [cond_false]
    cases (w.getD (Int.toNat 0) (Ty.dflt ty9)) == ([112,114,111,99]:List UInt8) with
    | true=>
      simp only [cond_true]
      by_cases h1:(1:Int)<((w.length:Nat):Int)
      ·rw [if_pos h1,if_pos (by omega),if_pos (by omega),if_pos (by omega),if_neg (fun h=>h h1)]
       split
       ·exact bad _
       ·exact ih _ _ _ _ ⟨by omega,hs.v,by simp;omega,qdp hs.p ⟨w3'.get (Int.toNat 1),by simp;omega,fun x hx=>w3' x (List.mem_of_mem_take (List.mem_of_mem_drop hx))⟩,by omega,hs.t⟩
      ·rw [if_neg h1,if_pos h1];exact bad _
    | false=>
    simp only [cond_false]
    cases (w.getD (Int.toNat 0) (Ty.dflt ty9)) == ([116,114,97,110,115]:List UInt8) with
    | true=>
      simp only [cond_true]
      obtain ⟨r,r1,r2⟩:=skip_ok (L.getD i (Ty.dflt ty9)) (by omega) 1 (by omega)
      have r1':M90 (L.getD i (Ty.dflt ty9)) 1=some r:=r1
      obtain ⟨id,a,b,c,d,g,ef,ok,t1,t2⟩:=qc4 r (by omega)
      rw [if_pos (by omega),r1',ob_s,t1,ob_s]
      dsimp only
      rw [if_pos (by omega)]
      cases ok with
      | false=>exact bad _
      | true=>
      simp only [Bool.not_true,cond_false]
      split
      ·exact bad _
      ·exact ih _ _ _ _ ⟨by omega,hs.v,by omega,hs.p,by simp;omega,qdp hs.t t2⟩
    | false=>exact bad _
   ·rw [if_neg h0];exact bad _
theorem parseModel_ok (s:List UInt8) (hs:s.length≤5000):∃ vs ps ts e x,M47 s=some (vs,ps,ts,e,x)∧rightOr vs ps ts:=by
 show ∃ vs ps ts e x,T47 Ops.std M86 M87 M88 M90 M89 M18 s (pmR s 1000000) some none=some (vs,ps,ts,e,x)∧_
 unfold T47
 simp only [qad,qaa]
 rw [if_neg (by omega)]
 obtain ⟨L,l1,l2,l3,l4⟩:=cut_ok s (by omega) 10
 rw [l1,ob_s]
 exact pm_loop s L (by omega) (fun x hx=>by have:=l4 x hx;omega) L.length 0 1000000 0 [] [] [] (by omega) (by omega) ⟨by simp,fun v h=>(by cases h),by simp,fun v h=>(by cases h),by simp,fun v h=>by cases h⟩
theorem goodM_nil:goodM [] []:=⟨by simp,fun v h=>(by cases h),by simp,fun p h=>by cases h⟩
theorem rightOr.good {vs:List Vrb} {ps:List Pcs} {ts:List Trn} (h:rightOr vs ps ts):goodM vs ps:=by
 rcases h.2 with h | ⟨rfl,rfl,rfl⟩
 ·exact h.2
 ·exact goodM_nil
theorem qbo (n:Int):∃ v,M111 n=some v:=⟨_,rfl⟩
theorem qbp (b:Bool):∃ v,M112 b=some v:=by cases b<;>exact ⟨_,rfl⟩
theorem two_some (op a b:Int):∃ v,M113 op a b=some v:=by
 show ∃ v,T113 Ops.std M111 M112 op a b some=some v
 unfold T113
 simp only [qak,qaa]
 have hb:∀ n:Int,∃ v,(ob (M111 n) fun y=>some y)=some v:=fun n=>by obtain ⟨v,h⟩:=qbo n;exact ⟨v,by rw [h,ob_s]⟩
 have ht:∀ n:Bool,∃ v,(ob (M112 n) fun y=>some y)=some v:=fun n=>by obtain ⟨v,h⟩:=qbp n;exact ⟨v,by rw [h,ob_s]⟩
 have hc:∀ q x y:Bool,∃ v,(cond q (ob (M112 x) fun y=>some y) (ob (M112 y) fun y=>some y))=some v:=fun q x y=>by
  cases q
  ·exact ht y
  ·exact ht x
 repeat' (first | exact hb _ | exact ht _ | exact hc _ _ _ | split)
section
variable {vs:List Vrb} {ps:List Pcs} {ts:List Trn}
noncomputable abbrev evR (vs:List Vrb) (ps:List Pcs) (ts:List Trn) (s1 s2:List Int) (e:List Trm):=R64 M62 M109 M111 M105 M108 M112 M113 vs ps ts s1 s2 e
theorem eval_loop (s1 s2:List Int) (h1:s1.length=ps.length) (h2:s2.length=vs.length) (e:List Trm) (he:e.length≤30) (hk:∀ x∈e,knE vs ps ts x):∀ (t i n:Nat) (st:List Int),i+t=e.length→t<n→st.length≤i→∃ v,evR vs ps ts s1 s2 e n (.l0 i st)=some v
 | t,i,0,st,hi,hn,hs=>by omega
 | 0,i,n+1,st,hi,hn,hs=>by
   show ∃ v,T64 Ops.std _ _ _ _ _ _ _ vs ps ts s1 s2 e _ some _=some v
   unfold T64
   simp only [qad,qak,qag,qaa]
   rw [if_neg (by omega)]
   by_cases h0:((st.length:Nat):Int)=0
   ·rw [if_pos h0];exact ⟨_,rfl⟩
   ·rw [if_neg h0,if_pos (by omega)];exact ⟨_,rfl⟩
 | t+1,i,n+1,st,hi,hn,hs=>by
   have ih:=fun st=>eval_loop s1 s2 h1 h2 e he hk t (i+1) n st (by omega) (by omega)
   obtain ⟨x,hx⟩:∃ x,e.getD i (Ty.dflt ty150)=x:=⟨_,rfl⟩
   have hm:x∈e:=by rw [←hx];exact qav (by omega) _
   obtain ⟨k2,k3⟩:=hk x hm
   show ∃ v,T64 Ops.std _ _ _ _ _ _ _ vs ps ts s1 s2 e _ some _=some v
   unfold T64
   simp only [qad,qak,qag,qal,qaa,qab,hx,mt,List.length_cons,List.length_nil,show IntKind.wrap IntKind.i64 ((i:Int)+1)=((i+1:Nat):Int) from qaf (by omega)]
   rw [if_pos (by omega),if_pos (by omega)]
   by_cases o1:x.1=1
   ·rw [if_pos o1,if_pos (by omega)];exact ih _ (by simp;omega)
   rw [if_neg o1]
   by_cases o2:x.1=2
   ·obtain ⟨k,hk1,hk2⟩:=k2 o2
    rw [if_pos o2,hk2,ob_s,if_pos (by omega)]
    obtain ⟨y,hy⟩:=qbo (s2.getD (Int.toNat (k:Int)) (Ty.dflt ty3))
    rw [hy,ob_s,if_pos (by omega)];exact ih _ (by simp;omega)
   rw [if_neg o2]
   by_cases o3:x.1=3
   ·obtain ⟨q,r,q1,q2,q3⟩:=k3 o3
    rw [if_pos o3,q2,ob_s,if_pos (by omega),q3,ob_s]
    obtain ⟨y,hy⟩:=qbp (decide (s1.getD (Int.toNat (q:Int)) (Ty.dflt ty3)=r))
    rw [hy,ob_s,if_pos (by omega)];exact ih _ (by simp;omega)
   rw [if_neg o3]
   by_cases o4:x.1=4
   ·rw [if_pos o4]
    by_cases hl:((st.length:Nat):Int)<1
    ·rw [if_pos hl];exact ⟨_,rfl⟩
    ·have hw1:IntKind.wrap IntKind.i64 ((st.length:Int)-1)=((st.length-1:Nat):Int):=by rw [wrap64 (by omega) (by omega)];omega
     simp only [hw1,qab]
     obtain ⟨y,hy⟩:=qbp (decide (st.getD (st.length-1) (Ty.dflt ty3)=0))
     rw [if_neg hl,if_pos trivial,if_pos (by omega),if_pos (by omega),hy,ob_s,if_pos (by omega),if_pos (by simp;omega)]
     exact ih _ (by simp;omega)
   rw [if_neg o4]
   by_cases o5:x.1=5
   ·rw [if_pos o5]
    by_cases hl:((st.length:Nat):Int)<1
    ·rw [if_pos hl];exact ⟨_,rfl⟩
    ·have hw1:IntKind.wrap IntKind.i64 ((st.length:Int)-1)=((st.length-1:Nat):Int):=by rw [wrap64 (by omega) (by omega)];omega
     simp only [hw1,qab]
     obtain ⟨y,hy⟩:=qbo (IntKind.wrap IntKind.i64 (0-st.getD (st.length-1) (Ty.dflt ty3)))
     rw [if_neg hl,if_pos trivial,if_pos (by omega),if_pos (by omega),hy,ob_s,if_pos (by omega),if_pos (by simp;omega)]
     exact ih _ (by simp;omega)
   rw [if_neg o5]
   by_cases hl:((st.length:Nat):Int)<2
   ·rw [if_pos hl];exact ⟨_,rfl⟩
   ·have hw1:IntKind.wrap IntKind.i64 ((st.length:Int)-1)=((st.length-1:Nat):Int):=by rw [wrap64 (by omega) (by omega)];omega
    have hw2:IntKind.wrap IntKind.i64 ((st.length:Int)-2)=((st.length-2:Nat):Int):=by rw [wrap64 (by omega) (by omega)];omega
    simp only [hw1,hw2,qab]
    obtain ⟨y,hy⟩:=two_some x.1 (st.getD (st.length-2) (Ty.dflt ty3)) (st.getD (st.length-1) (Ty.dflt ty3))
    rw [if_neg hl,if_pos trivial,if_pos (by omega),if_pos (by omega),if_pos (by omega),hy,ob_s,if_pos (by omega),if_pos (by simp;omega)]
    exact ih _ (by simp;omega)
theorem eval_ok (hg:smallG vs ps) (s1 s2:List Int) (e:List Trm) (he:shortE e):∃ v,M64 vs ps ts s1 s2 e=some v:=by
 show ∃ v,T64 Ops.std M62 M109 M111 M105 M108 M112 M113 vs ps ts s1 s2 e (evR vs ps ts s1 s2 e 1000000) some none=some v
 unfold T64
 obtain ⟨b,b1,b2⟩:=qc6 ts hg e he
 rw [b1,ob_s]
 cases hb:b with
 | false=>exact ⟨_,rfl⟩
 | true=>
 simp only [Bool.not_true,cond_false,qak,qao,qaa]
 by_cases c1:((s1.length:Nat):Int)=((ps.length:Nat):Int)
 ·rw [if_neg (fun h=>h c1)]
  by_cases c2:((s2.length:Nat):Int)=((vs.length:Nat):Int)
  ·rw [if_neg (fun h=>h c2)]
   exact eval_loop s1 s2 (by omega) (by omega) e he.1 (b2 hb).2 e.length 0 1000000 [] (by omega) (by have:=he.1;omega) (by simp)
  ·rw [if_pos c2];exact ⟨_,rfl⟩
 ·rw [if_pos c1];exact ⟨_,rfl⟩
abbrev Stt:=List Int×List Int
structure goodSt (vs:List Vrb) (ps:List Pcs) (s:Stt):Prop where
 l1:s.1.length=ps.length
 l2:s.2.length=vs.length
 p:∀ i,i<ps.length→0≤s.1.getD i (Ty.dflt ty3)∧s.1.getD i (Ty.dflt ty3)<((ps.getD i (Ty.dflt ty98)).2.length:Int)
 v:∀ i,i<vs.length→(vs.getD i (Ty.dflt ty94)).2.1≤s.2.getD i (Ty.dflt ty3)∧s.2.getD i (Ty.dflt ty3)≤(vs.getD i (Ty.dflt ty94)).2.2.1
theorem getD_app {α:Type} {l:List α} {x d:α} {j:Nat}:(l++[x]).getD j d=if j<l.length then l.getD j d else if j=l.length then x else d:=by
 simp only [List.getD_eq_getElem?_getD]
 by_cases h:j<l.length
 ·rw [if_pos h,List.getElem?_append_left h]
 ·rw [if_neg h,List.getElem?_append_right (by omega)]
  by_cases h2:j=l.length
  ·rw [if_pos h2,h2];simp
  ·rw [if_neg h2,List.getElem?_eq_none (by simp;omega)];rfl
noncomputable abbrev stR (vs:List Vrb) (ps:List Pcs) (ts:List Trn) (x:Int):=R30 M29 vs ps ts x
theorem st_l1 (hM:goodM vs ps) (x:Int) (L:List Int) (h1:L.length=ps.length) (hp:∀ i,i<ps.length→0≤L.getD i (Ty.dflt ty3)∧L.getD i (Ty.dflt ty3)<((ps.getD i (Ty.dflt ty98)).2.length:Int)) :
  ∀ (t i n:Nat) (V:List Int),i+t=vs.length→t<n→V.length=i→(∀ j,j<i→(vs.getD j (Ty.dflt ty94)).2.1≤V.getD j (Ty.dflt ty3)∧V.getD j (Ty.dflt ty3)≤(vs.getD j (Ty.dflt ty94)).2.2.1)→∃ s,stR vs ps ts x n (.l1 i L V)=some s∧goodSt vs ps s
 | t,i,0,V,hi,hn,hv,hk=>by omega
 | 0,i,n+1,V,hi,hn,hv,hk=>by
   show ∃ s,T30 Ops.std _ vs ps ts x _ some _=some s∧_
   unfold T30
   simp only [qad,qaa]
   rw [if_neg (by omega)]
   exact ⟨_,rfl,h1,by show V.length=_;omega,hp,fun j hj=>hk j (by omega)⟩
 | t+1,i,n+1,V,hi,hn,hv,hk=>by
   have hvl:=hM.vl
   have ih:=fun V=>st_l1 hM x L h1 hp t (i+1) n V (by omega) (by omega)
   obtain ⟨y,hy⟩:∃ y,vs.getD i (Ty.dflt ty94)=y:=⟨_,rfl⟩
   have ho:okVar y:=by rw [←hy];exact hM.v _ (qav (by omega) _)
   obtain ⟨o1,o2,o3,o4⟩:=ho
   show ∃ s,T30 Ops.std _ vs ps ts x _ some _=some s∧_
   unfold T30
   have hw:IntKind.wrap IntKind.i64 (3+IntKind.wrap IntKind.i64 (4*(i:Int)))=((4*i+3:Nat):Int):=by rw [wrap64 (n:=4*(i:Int)) (by omega) (by omega),wrap64 (by omega) (by omega)];omega
   have hN:IntKind.wrap IntKind.i64 (IntKind.wrap IntKind.i64 (y.2.2.1-y.2.1)+1)=(((y.2.2.1-y.2.1+1).toNat:Nat):Int):=by rw [wrap64 (n:=y.2.2.1-y.2.1) (by omega) (by omega),wrap64 (by omega) (by omega)];omega
   simp only [qad,qak,qag,qal,qaa,qab,hy,hw,hN,mt,List.length_cons,List.length_nil,show IntKind.wrap IntKind.i64 ((i:Int)+1)=((i+1:Nat):Int) from qaf (by omega)]
   obtain ⟨k,k1,k2⟩:=pickN (IntKind.wrap IntKind.i64 (Int.tdiv x ((4*i+3:Nat):Int))) (y.2.2.1-y.2.1+1).toNat (by omega) (by omega)
   rw [if_pos (by omega),if_pos (by omega),if_neg (by omega),if_pos (by omega),if_pos (by omega),k2,ob_s,if_pos (by omega),wrap64 (n:=y.2.1+(k:Int)) (by omega) (by omega)]
   refine ih _ (by simp;omega) fun j hj=>?_
   rw [getD_app]
   by_cases h:j<V.length
   ·rw [if_pos h];exact hk j (by omega)
   ·rw [if_neg h,if_pos (by omega),show j=i by omega,hy];exact ⟨by omega,by omega⟩
theorem st_l0 (hM:goodM vs ps) (x:Int):∀ (t i n:Nat) (L:List Int),i+t=ps.length→t+10<n→L.length=i→(∀ j,j<i→0≤L.getD j (Ty.dflt ty3)∧L.getD j (Ty.dflt ty3)<((ps.getD j (Ty.dflt ty98)).2.length:Int))→∃ s,stR vs ps ts x n (.l0 i L)=some s∧goodSt vs ps s
 | t,i,0,L,hi,hn,hv,hk=>by omega
 | 0,i,n+1,L,hi,hn,hv,hk=>by
   have hvl:=hM.vl
   show ∃ s,T30 Ops.std _ vs ps ts x _ some _=some s∧_
   unfold T30
   simp only [qad,qaa]
   rw [if_neg (by omega)]
   exact st_l1 hM x L (by omega) (fun j hj=>hk j (by omega)) vs.length 0 n [] (by omega) (by omega) rfl (fun j hj=>by omega)
 | t+1,i,n+1,L,hi,hn,hv,hk=>by
   have hpl:=hM.pl
   have ih:=fun L=>st_l0 hM x t (i+1) n L (by omega) (by omega)
   obtain ⟨y,hy⟩:∃ y,ps.getD i (Ty.dflt ty98)=y:=⟨_,rfl⟩
   have ho:1≤y.2.length∧y.2.length≤6:=by rw [←hy];exact hM.p _ (qav (by omega) _)
   show ∃ s,T30 Ops.std _ vs ps ts x _ some _=some s∧_
   unfold T30
   have hw:IntKind.wrap IntKind.i64 (1+(i:Int))=((i+1:Nat):Int):=by rw [wrap64 (by omega) (by omega)];omega
   simp only [qad,qak,qag,qal,qaa,qab,hy,hw,mt,List.length_cons,List.length_nil,show IntKind.wrap IntKind.i64 ((i:Int)+1)=((i+1:Nat):Int) from qaf (by omega)]
   obtain ⟨k,k1,k2⟩:=pickN (IntKind.wrap IntKind.i64 (Int.tdiv x ((i+1:Nat):Int))) y.2.length (by omega) (by omega)
   rw [if_pos (by omega),if_neg (by omega),if_pos (by omega),k2,ob_s,if_pos (by omega)]
   refine ih _ (by simp;omega) fun j hj=>?_
   rw [getD_app]
   by_cases h:j<L.length
   ·rw [if_pos h];exact hk j (by omega)
   ·rw [if_neg h,if_pos (by omega),show j=i by omega,hy];exact ⟨by omega,by omega⟩
theorem State_ok (hM:goodM vs ps) (x:Int):∃ s,M30 vs ps ts x=some s∧goodSt vs ps s:=by
 have hpl:=hM.pl
 show ∃ s,T30 Ops.std M29 vs ps ts x (stR vs ps ts x 1000000) some none=some s∧_
 unfold T30
 exact st_l0 hM x ps.length 0 1000000 [] (by omega) (by omega) rfl (fun j hj=>by omega)
end
abbrev Stp:=Stt×List Int
section
variable {vs:List Vrb} {ps:List Pcs} {ts:List Trn}
end
section
variable (vs:List Vrb) (ps:List Pcs) (ts:List Trn)
noncomputable def knB (e:List Trm):Bool:=(M62 vs ps ts e).getD false
def atmOk (f:List Prt):Prop:=∀ p∈f,p.1=3→shortE p.2
noncomputable def knA (f:List Prt):Bool:=f.all fun p=>if p.1=3 then knB vs ps ts p.2 else true
variable {vs ps}
section
variable (hg:smallG vs ps) (f:List Prt) (hf:f.length≤60) (st cy:List Stp) (hst:st.length≤6) (hcy:cy.length≤6) (n:Nat) (hn:n=st.length+cy.length)
end
theorem wf_atm {t:Fm Trm} (ht:WF t):atmOk t.flat:=fun p hp h3=>wf_short ht p hp
end
section
variable {vs:List Vrb} {ps:List Pcs} (ts:List Trn)
noncomputable abbrev ixV (vs:List Vrb):=R163 M164 vs
theorem ixV_loop (hv:vs.length≤100000) (s:List UInt8):∀ (t i n:Nat),i+t=vs.length→t<n→∃ r,ixV vs s n (.l0 (vs.length:Nat) i s)=some (r,s)∧R109 vs ps ts s n (.l0 i)=some r
 | t,i,0,hi,hn=>by omega
 | 0,i,n+1,hi,hn=>by
   show ∃ r,T163 Ops.std _ vs s _ some _=some (r,s)∧T109 Ops.std vs ps ts s _ some _=some r
   unfold T163 T109
   simp only [qad,qaa]
   rw [if_neg (by omega),if_neg (by omega)]
   exact ⟨_,rfl,rfl⟩
 | t+1,i,n+1,hi,hn=>by
   have ih:=ixV_loop hv s t (i+1) n (by omega) (by omega)
   have hc:∀ v:Vrb,M164 v.1 v.2.1 v.2.2.1 v.2.2.2 s=some (v.1 == s,s):=fun v=>rfl
   show ∃ r,T163 Ops.std _ vs s _ some _=some (r,s)∧T109 Ops.std vs ps ts s _ some _=some r
   unfold T163 T109
   simp only [qad,qag,qaa,qab,show IntKind.wrap IntKind.i64 ((i:Int)+1)=((i+1:Nat):Int) from qaf (by omega)]
   rw [if_pos (by omega),if_pos (by omega),if_pos (by omega),if_pos (by omega),hc,ob_s]
   dsimp only
   cases (vs.getD i (Ty.dflt ty94)).1 == s with
   | true=>exact ⟨_,rfl,rfl⟩
   | false=>exact ih
theorem qe1 (hv:vs.length≤100000) (s:List UInt8):M119 vs ps ts s=M109 vs ps ts s:=by
 obtain ⟨r,h1,h2⟩:=ixV_loop (ps:=ps) ts hv s vs.length 0 1000000 (by omega) (by omega)
 have e1:M163 vs s=some (r,s):=by
  show T163 Ops.std M164 vs s (ixV vs s 1000000) some none=_
  unfold T163
  exact h1
 have e2:M109 vs ps ts s=some r:=by
  show T109 Ops.std vs ps ts s (R109 vs ps ts s 1000000) some none=_
  unfold T109
  exact h2
 show T119 Ops.std M164 M163 vs ps ts s some=_
 unfold T119
 rw [e1,ob_s,e2]
noncomputable abbrev ixP (ps:List Pcs):=R165 M166 ps
theorem ixP_loop (hv:ps.length≤100000) (s:List UInt8):∀ (t i n:Nat),i+t=ps.length→t<n→∃ r,ixP ps s n (.l0 (ps.length:Nat) i s)=some (r,s)∧R105 vs ps ts s n (.l0 i)=some r
 | t,i,0,hi,hn=>by omega
 | 0,i,n+1,hi,hn=>by
   show ∃ r,T165 Ops.std _ ps s _ some _=some (r,s)∧T105 Ops.std vs ps ts s _ some _=some r
   unfold T165 T105
   simp only [qad,qaa]
   rw [if_neg (by omega),if_neg (by omega)]
   exact ⟨_,rfl,rfl⟩
 | t+1,i,n+1,hi,hn=>by
   have ih:=ixP_loop hv s t (i+1) n (by omega) (by omega)
   have hc:∀ v:Pcs,M166 v.1 v.2 s=some (v.1 == s,s):=fun v=>rfl
   show ∃ r,T165 Ops.std _ ps s _ some _=some (r,s)∧T105 Ops.std vs ps ts s _ some _=some r
   unfold T165 T105
   simp only [qad,qag,qaa,qab,show IntKind.wrap IntKind.i64 ((i:Int)+1)=((i+1:Nat):Int) from qaf (by omega)]
   rw [if_pos (by omega),if_pos (by omega),if_pos (by omega),if_pos (by omega),hc,ob_s]
   dsimp only
   cases (ps.getD i (Ty.dflt ty98)).1 == s with
   | true=>exact ⟨_,rfl,rfl⟩
   | false=>exact ih
theorem ixS_loop (hl:okLocs ps) (p:Nat) (hp:p<ps.length) (s:List UInt8):∀ (t i n:Nat),i+t=(ps.getD p (Ty.dflt ty98)).2.length→t<n→
  R167 (ps.getD p (Ty.dflt ty98)).2 s n (.l0 ((ps.getD p (Ty.dflt ty98)).2.length:Nat) i)=R108 vs ps ts p s n (.l0 i)
 | t,i,0,hi,hn=>by omega
 | 0,i,n+1,hi,hn=>by
   show T167 Ops.std _ s _ some _=T108 Ops.std vs ps ts p s _ some _
   unfold T167 T108
   simp only [qad,qag,qaa,qab]
   rw [if_neg (by omega),if_pos (by omega),if_neg (by omega)]
 | t+1,i,n+1,hi,hn=>by
   have ih:=ixS_loop hl p hp s t (i+1) n (by omega) (by omega)
   have hg:=hl.get p hp
   show T167 Ops.std _ s _ some _=T108 Ops.std vs ps ts p s _ some _
   unfold T167 T108
   simp only [qad,qag,qaa,qab,show IntKind.wrap IntKind.i64 ((i:Int)+1)=((i+1:Nat):Int) from qaf (by omega)]
   rw [if_pos (by omega),if_pos (by omega),if_pos (by omega),if_pos (by omega),if_pos (by omega),if_pos (by omega)]
   rw [show (s == (ps.getD p (Ty.dflt ty98)).2.getD i (Ty.dflt Ty.str))=((ps.getD p (Ty.dflt ty98)).2.getD i (Ty.dflt Ty.str) == s) from Bool.beq_comm]
   generalize ((ps.getD p (Ty.dflt ty98)).2.getD i (Ty.dflt Ty.str) == s)=b
   cases b with
   | true=>rfl
   | false=>exact ih
theorem place_eq (hg:smallG vs ps) (s l:List UInt8):∃ q r,M105 vs ps ts s=some q∧M108 vs ps ts q l=some r∧M120 vs ps ts s l=some (q,r):=by
 obtain ⟨q,h1,h2⟩:=ixP_loop (vs:=vs) ts hg.p s ps.length 0 1000000 (by omega) (by have:=hg.p;omega)
 have e1:M165 ps s=some (q,s):=by
  show T165 Ops.std M166 ps s (ixP ps s 1000000) some none=_
  unfold T165
  exact h1
 have e2:M105 vs ps ts s=some q:=by
  show T105 Ops.std vs ps ts s (R105 vs ps ts s 1000000) some none=_
  unfold T105
  exact h2
 obtain ⟨q',q1,q2⟩:=qdn vs ps ts hg.p s
 have:q'=q:=by rw [e2] at q1;exact (Option.some.inj q1).symm
 subst this
 obtain ⟨r,r1,_⟩:=qec vs ps ts hg.l q' q2 l
 refine ⟨q',r,e2,r1,?_⟩
 show T120 Ops.std M166 M165 M167 vs ps ts s l some=_
 unfold T120
 rw [e1,ob_s]
 simp only [qad,qag,qaa]
 rcases q2 with rfl | ⟨k,hk,rfl⟩
 ·rw [if_pos (by omega)]
  have:M108 vs ps ts (-1) l=some (-1):=by
   show T108 Ops.std vs ps ts (-1) l (R108 vs ps ts (-1) l 1000000) some none=_
   unfold T108
   simp only [qad,qaa]
   rw [if_pos (by omega)]
  rw [this] at r1
  rw [←Option.some.inj r1]
 ·rw [if_neg (by omega),if_pos (by omega),qab]
  have e3:M167 (ps.getD k (Ty.dflt ty98)).2 l=M108 vs ps ts (k:Int) l:=by
   show T167 Ops.std (ps.getD k (Ty.dflt ty98)).2 l (R167 (ps.getD k (Ty.dflt ty98)).2 l 1000000) some none=T108 Ops.std vs ps ts (k:Int) l (R108 vs ps ts (k:Int) l 1000000) some none
   unfold T167 T108
   simp only [qad,qaa]
   rw [if_neg (by omega)]
   exact ixS_loop (vs:=vs) ts hg.l k hk l _ 0 1000000 (Nat.zero_add _) (by have:=hg.l.get k hk;omega)
  rw [e3,r1,ob_s]
noncomputable abbrev kxP (vs:List Vrb) (ps:List Pcs) (ts:List Trn) (e:List Trm):=R116 M119 M120 M156 vs ps ts e
noncomputable abbrev kxR (vs:List Vrb) (ps:List Pcs) (ts:List Trn) (e:List Trm):=R62 M109 M105 M108 M110 vs ps ts e
theorem qe2 (hg:smallG vs ps) (e:List Trm) (he:shortE e):∀ (t i n:Nat),i+t=e.length→t<n→kxP vs ps ts e n (.l0 (e.length:Nat) i)=kxR vs ps ts e n (.l0 i)
 | t,i,0,hi,hn=>by omega
 | 0,i,n+1,hi,hn=>by
   show T116 Ops.std _ _ _ vs ps ts e _ some _=T62 Ops.std _ _ _ _ vs ps ts e _ some _
   unfold T116 T62
   simp only [qad,qaa]
   rw [if_neg (by omega),if_neg (by omega),he.right,ob_s,qev e (by have:=he.1;omega),ob_s]
 | t+1,i,n+1,hi,hn=>by
   have ih:=qe2 hg e he t (i+1) n (by omega) (by omega)
   have h30:=he.1
   obtain ⟨x,hx⟩:∃ x,e.getD i (Ty.dflt ty150)=x:=⟨_,rfl⟩
   obtain ⟨q,r,q1,r1,p1⟩:=place_eq ts hg x.2.2.1 x.2.2.2
   obtain ⟨v,v1,v2⟩:=qcs vs ps ts hg.v x.2.2.1
   show T116 Ops.std _ _ _ vs ps ts e _ some _=T62 Ops.std _ _ _ _ vs ps ts e _ some _
   unfold T116 T62
   simp only [qad,qag,qak,qaa,qab,hx,qe1 ts hg.v,show IntKind.wrap IntKind.i64 ((i:Int)+1)=((i+1:Nat):Int) from qaf (by omega)]
   have hin:(0:Int)≤(i:Int)∧(i:Int)<(e.length:Int):=by omega
   simp only [if_pos hin,if_pos hin.2]
   by_cases h2:x.1=2
   ·rw [if_pos h2,if_pos h2,v1,ob_s,ob_s]
    by_cases hv:v<0
    ·rw [if_pos hv,if_pos hv]
    ·rw [if_neg hv,if_neg hv,if_neg (by omega)];exact ih
   ·rw [if_neg h2,if_neg h2]
    by_cases h3:x.1=3
    ·rw [if_pos h3,if_pos h3,p1,ob_s,q1,ob_s,r1,ob_s]
     dsimp only
     by_cases hr:r<0
     ·rw [if_pos hr,if_pos hr]
     ·rw [if_neg hr,if_neg hr];exact ih
    ·rw [if_neg h3,if_neg h3];exact ih
theorem knownP_eq (hg:smallG vs ps) (e:List Trm) (he:shortE e):M116 vs ps ts e=some (knB vs ps ts e):=by
 obtain ⟨b,hb,_⟩:=qc6 ts hg e he
 have:M116 vs ps ts e=M62 vs ps ts e:=by
  show T116 Ops.std M119 M120 M156 vs ps ts e (kxP vs ps ts e 1000000) some none=T62 Ops.std M109 M105 M108 M110 vs ps ts e (kxR vs ps ts e 1000000) some none
  unfold T116 T62
  exact qe2 ts hg e he e.length 0 1000000 (by omega) (by have:=he.1;omega)
 rw [this]
 unfold knB
 rw [hb];rfl
theorem within_eq (n:Int):M118 n=M111 n:=by
 show T118 Ops.std n some=T111 Ops.std n some
 unfold T118 T111
 simp only [qad,ite_dec,cond_true,cond_false]
 congr 1
 (repeat' split)<;>omega
theorem truth_eq (b:Bool):M121 b=M112 b:=by cases b<;>rfl
theorem two_eq (op a b:Int):M122 op a b=M113 op a b:=by
 show T122 Ops.std M118 M121 op a b some=T113 Ops.std M111 M112 op a b some
 unfold T122 T113
 rw [show M118=M111 from funext within_eq,show M121=M112 from funext truth_eq]
noncomputable abbrev evP (vs:List Vrb) (ps:List Pcs) (ts:List Trn) (s1 s2:List Int) (e:List Trm):=R68 M116 M117 M119 M118 M120 M121 M122 vs ps ts s1 s2 e
theorem qfw (hg:smallG vs ps) (s1 s2:List Int) (h1:s1.length=ps.length) (h2:s2.length=vs.length) (e:List Trm) (he:e.length≤30) (hk:∀ x∈e,knE vs ps ts x):∀ (t i n:Nat) (st:List Int),i+t=e.length→t<n→st.length≤i→fin30 e (eGo (e.drop i) st.length)=true→
  evP vs ps ts s1 s2 e n (.l0 (e.length:Nat) i st)=evR vs ps ts s1 s2 e n (.l0 i st)
 | t,i,0,st,hi,hn,hs,hf=>by omega
 | 0,i,n+1,st,hi,hn,hs,hf=>by
   rw [List.drop_eq_nil_of_le (by omega)] at hf
   simp only [eGo,fin30,Bool.and_eq_true,decide_eq_true_eq] at hf
   show T68 Ops.std _ _ _ _ _ _ _ vs ps ts s1 s2 e _ some _=T64 Ops.std _ _ _ _ _ _ _ vs ps ts s1 s2 e _ some _
   unfold T68 T64
   simp only [qad,qak,qag,qaa]
   rw [if_neg (by omega),if_pos (by omega),if_neg (by omega),if_neg (by omega)]
 | t+1,i,n+1,st,hi,hn,hs,hf=>by
   have ih:=fun st=>qfw hg s1 s2 h1 h2 e he hk t (i+1) n st (by omega) (by omega)
   rw [qau (Ty.dflt ty150) (by omega)] at hf
   obtain ⟨x,hx⟩:∃ x,e.getD i (Ty.dflt ty150)=x:=⟨_,rfl⟩
   have hm:x∈e:=by rw [←hx];exact qav (by omega) _
   rw [hx] at hf
   simp only [eGo] at hf
   have hmay:mayT x=true:=by
    cases h:mayT x with
    | true=>rfl
    | false=>rw [h] at hf;simp [fin30] at hf
   have hop:=mayT_op hmay
   obtain ⟨hb1,hb2⟩:=opE_le x.1
   have hd:¬ ((st.length:Nat):Int)<opE x.1:=fun h=>by rw [hmay] at hf;simp [h,fin30] at hf
   simp only [hmay,hd,Bool.not_true,decide_false,Bool.or_false,Bool.false_eq_true,if_false] at hf
   have ha:opE x.1=((opE x.1).toNat:Int):=by omega
   generalize (opE x.1).toNat=a at ha
   have ha2:a≤2:=by omega
   have hal:a≤st.length:=by omega
   have hnx:∀ y:Int,fin30 e (eGo (e.drop (i+1)) ((st.take (st.length-a)++[y]).length:Nat))=true:=fun y=>by
    rw [←hf,ha]
    congr 2
    simp;omega
   have hwa:IntKind.wrap IntKind.i64 ((st.length:Int)-(a:Int))=((st.length-a:Nat):Int):=by rw [wrap64 (by omega) (by omega)];omega
   show T68 Ops.std _ _ _ _ _ _ _ vs ps ts s1 s2 e _ some _=T64 Ops.std _ _ _ _ _ _ _ vs ps ts s1 s2 e _ some _
   unfold T68 T64
   simp only [qad,qak,qag,qal,qaa,qab,hx,mt,opE_prog,ob_s,ha,hwa,qe1 ts hg.v,within_eq,truth_eq,two_eq,List.length_cons,List.length_nil,show IntKind.wrap IntKind.i64 ((i:Int)+1)=((i+1:Nat):Int) from qaf (by omega)]
   have hin:(0:Int)≤(i:Int)∧(i:Int)<(e.length:Int):=by omega
   have hlim:∀ l:List Int,l.length≤st.length→(l.length+(0+1))*8≤140737488355328:=fun l h=>by omega
   have hit:(0:Int)≤((st.length-a:Nat):Int)∧((st.length-a:Nat):Int)<((st.length+1:Nat):Int):=by omega
   have htl:(st.take (st.length-a)).length≤st.length:=by rw [List.length_take];omega
   simp only [if_pos hin,if_pos hin.2]
   by_cases o1:x.1=1
   ·have h0:a=0:=by have e:opE x.1=0:=(congrArg opE o1).trans rfl;omega
    have et:st.take (st.length-a)=st:=by rw [h0];simp
    have n1:=hnx x.2.1
    rw [et] at n1
    rw [if_pos o1,if_pos o1,if_pos hit,et,if_pos (by omega),if_pos (by omega)]
    exact ih _ (by simp;omega) n1
   rw [if_neg o1,if_neg o1]
   by_cases o2:x.1=2
   ·have h0:a=0:=by have e:opE x.1=0:=(congrArg opE o2).trans rfl;omega
    have et:st.take (st.length-a)=st:=by rw [h0];simp
    obtain ⟨k,hk1,hk2⟩:=(hk x hm).1 o2
    obtain ⟨y,hy⟩:=qbo (s2.getD k (Ty.dflt ty3))
    have n1:=hnx y
    rw [et] at n1
    have hkin:(0:Int)≤(k:Int)∧(k:Int)<(s2.length:Int):=by omega
    rw [if_pos o2,if_pos o2,hk2,ob_s,ob_s,if_pos hkin,if_pos hkin,qab,hy,ob_s,ob_s,if_pos hit,et,if_pos (by omega),if_pos (by omega)]
    exact ih _ (by simp;omega) n1
   rw [if_neg o2,if_neg o2]
   by_cases o3:x.1=3
   ·have h0:a=0:=by have e:opE x.1=0:=(congrArg opE o3).trans rfl;omega
    have et:st.take (st.length-a)=st:=by rw [h0];simp
    obtain ⟨q,r,q1,q2,q3⟩:=(hk x hm).2 o3
    obtain ⟨q',r',p1,p2,p3⟩:=place_eq ts hg x.2.2.1 x.2.2.2
    rw [q2] at p1
    have e1:=Option.some.inj p1
    subst e1
    rw [q3] at p2
    have e2:=Option.some.inj p2
    subst e2
    obtain ⟨y,hy⟩:=qbp (decide (s1.getD q (Ty.dflt ty3)=r))
    have n1:=hnx y
    rw [et] at n1
    have hqin:(0:Int)≤(q:Int)∧(q:Int)<(s1.length:Int):=by omega
    rw [if_pos o3,if_pos o3,p3,q2,ob_s,ob_s]
    dsimp only
    rw [if_pos hqin,if_pos hqin,q3,ob_s,qab,hy,ob_s,ob_s,if_pos hit,et,if_pos (by omega),if_pos (by omega)]
    exact ih _ (by simp;omega) n1
   rw [if_neg o3,if_neg o3]
   by_cases o4:x.1=4
   ·have h1:a=1:=by have e:opE x.1=1:=(congrArg opE o4).trans rfl;omega
    subst h1
    have hw1:IntKind.wrap IntKind.i64 ((st.length:Int)-1)=((st.length-1:Nat):Int):=by rw [wrap64 (by omega) (by omega)];omega
    obtain ⟨y,hy⟩:=qbp (decide (st.getD (st.length-1) (Ty.dflt ty3)=0))
    simp only [hw1,qab,hy,ob_s]
    have hi1:(0:Int)≤((st.length-1:Nat):Int)∧((st.length-1:Nat):Int)<(st.length:Int):=by omega
    rw [if_pos o4,if_pos o4,if_pos hi1,if_pos hit,if_pos (by omega),if_neg (by omega),if_pos trivial,if_pos hit,if_pos hi1,if_pos (by omega),if_pos (by omega)]
    exact ih _ (by simp;omega) (hnx y)
   rw [if_neg o4,if_neg o4]
   by_cases o5:x.1=5
   ·have h1:a=1:=by have e:opE x.1=1:=(congrArg opE o5).trans rfl;omega
    subst h1
    have hw1:IntKind.wrap IntKind.i64 ((st.length:Int)-1)=((st.length-1:Nat):Int):=by rw [wrap64 (by omega) (by omega)];omega
    obtain ⟨y,hy⟩:=qbo (IntKind.wrap IntKind.i64 (0-st.getD (st.length-1) (Ty.dflt ty3)))
    simp only [hw1,qab,hy,ob_s]
    have hi1:(0:Int)≤((st.length-1:Nat):Int)∧((st.length-1:Nat):Int)<(st.length:Int):=by omega
    rw [if_pos o5,if_pos o5,if_pos hi1,if_pos hit,if_pos (by omega),if_neg (by omega),if_pos trivial,if_pos hit,if_pos hi1,if_pos (by omega),if_pos (by omega)]
    exact ih _ (by simp;omega) (hnx y)
   rw [if_neg o5,if_neg o5]
   have h2':a=2:=by
    unfold opE at ha
    split at ha
    ·omega
    ·rw [if_neg (by omega),if_neg (by omega)] at ha;omega
   subst h2'
   have hw1:IntKind.wrap IntKind.i64 ((st.length:Int)-1)=((st.length-1:Nat):Int):=by rw [wrap64 (by omega) (by omega)];omega
   have hw2:IntKind.wrap IntKind.i64 ((st.length:Int)-2)=((st.length-2:Nat):Int):=by rw [wrap64 (by omega) (by omega)];omega
   have hw3:IntKind.wrap IntKind.i64 (((st.length-2:Nat):Int)+1)=((st.length-1:Nat):Int):=by rw [wrap64 (by omega) (by omega)];omega
   obtain ⟨y,hy⟩:=two_some x.1 (st.getD (st.length-2) (Ty.dflt ty3)) (st.getD (st.length-1) (Ty.dflt ty3))
   simp only [hw1,hw2,hw3,qab,hy,ob_s]
   have hi1:(0:Int)≤((st.length-1:Nat):Int)∧((st.length-1:Nat):Int)<(st.length:Int):=by omega
   have hi2:(0:Int)≤((st.length-2:Nat):Int)∧((st.length-2:Nat):Int)<(st.length:Int):=by omega
   rw [if_pos hi2,if_pos hi1,if_pos hit,if_pos (by omega),if_neg (by omega),if_pos trivial,if_pos hit,if_pos hi2,if_pos hi1,if_pos (by omega),if_pos (by omega)]
   exact ih _ (by simp;omega) (hnx y)
theorem evalP_eq (hg:smallG vs ps) (s1 s2:List Int) (e:List Trm) (he:shortE e):M68 vs ps ts s1 s2 e=M64 vs ps ts s1 s2 e:=by
 show T68 Ops.std M116 M117 M119 M118 M120 M121 M122 vs ps ts s1 s2 e (evP vs ps ts s1 s2 e 1000000) some none=T64 Ops.std M62 M109 M111 M105 M108 M112 M113 vs ps ts s1 s2 e (evR vs ps ts s1 s2 e 1000000) some none
 unfold T68 T64
 obtain ⟨b,b1,b2⟩:=qc6 ts hg e he
 have e1:knB vs ps ts e=b:=by unfold knB;rw [b1];rfl
 rw [knownP_eq ts hg e he,ob_s,b1,ob_s,e1]
 cases hb:b with
 | false=>rfl
 | true=>
   simp only [Bool.not_true,cond_false,qak,qao,qaa]
   by_cases c1:((s1.length:Nat):Int)=((ps.length:Nat):Int)
   ·rw [if_neg (fun h=>h c1)]
    by_cases c2:((s2.length:Nat):Int)=((vs.length:Nat):Int)
    ·rw [if_neg (fun h=>h c2),if_neg (fun h=>h c1),if_neg (fun h=>h c2)]
     exact qfw ts hg s1 s2 (by omega) (by omega) e he.1 (b2 hb).2 e.length 0 1000000 [] (by omega) (by have:=he.1;omega) (by simp) (b2 hb).1
    ·rw [if_pos c2,if_neg (fun h=>h c1),if_pos c2]
   ·rw [if_pos c1,if_pos c1]
theorem ixK_loop (hg:smallG vs ps) (f:List Prt) (hf:f.length≤60) (ha:atmOk f):∀ (t i n:Nat),i+t=f.length→t<n→∃ r:Int,R162 M115 f vs ps ts n (.l0 (f.length:Nat) i vs ps ts)=some (r,vs,ps,ts)∧(knA vs ps ts (f.drop i)=decide (r<0))
 | t,i,0,hi,hn=>by omega
 | 0,i,n+1,hi,hn=>by
   show ∃ r:Int,T162 Ops.std _ f vs ps ts _ some _=_∧_
   unfold T162
   simp only [qad,qaa]
   rw [if_neg (by omega),List.drop_eq_nil_of_le (by omega)]
   exact ⟨-1,rfl,rfl⟩
 | t+1,i,n+1,hi,hn=>by
   have ih:=ixK_loop hg f hf ha t (i+1) n (by omega) (by omega)
   obtain ⟨p,hp⟩:∃ p,f.getD i (Ty.dflt ty66)=p:=⟨_,rfl⟩
   have hm:p∈f:=by rw [←hp];exact qav (by omega) _
   have hc:M115 p.1 p.2 vs ps ts=some (!(if p.1=3 then knB vs ps ts p.2 else true),vs,ps,ts):=by
    show T115 Ops.std M116 p.1 p.2 vs ps ts some=_
    unfold T115
    simp only [qak,qaa]
    by_cases h3:p.1=3
    ·rw [if_pos h3,if_pos h3,knownP_eq ts hg p.2 (ha p hm h3),ob_s]
    ·rw [if_neg h3,if_neg h3];rfl
   show ∃ r:Int,T162 Ops.std _ f vs ps ts _ some _=_∧_
   unfold T162
   simp only [qad,qag,qaa,qab,hp,show IntKind.wrap IntKind.i64 ((i:Int)+1)=((i+1:Nat):Int) from qaf (by omega)]
   rw [if_pos (by omega),if_pos (by omega),hc,ob_s,qau (Ty.dflt ty66) (by omega),hp]
   dsimp only
   have hk:knA vs ps ts (p::f.drop (i+1))=((if p.1=3 then knB vs ps ts p.2 else true) && knA vs ps ts (f.drop (i+1))):=rfl
   rw [hk]
   generalize (if p.1=3 then knB vs ps ts p.2 else true)=b
   cases b with
   | true=>simpa using ih
   | false=>exact ⟨(i:Int),rfl,by simp⟩
theorem qfx (hg:smallG vs ps) (f:List Prt) (hf:f.length≤60) (ha:atmOk f) (hr:M95 f=some true):M67 vs ps ts f=some (knA vs ps ts f):=by
 obtain ⟨r,r1,r2⟩:=ixK_loop ts hg f hf ha f.length 0 1000000 (by omega) (by omega)
 have e1:M162 f vs ps ts=some (r,vs,ps,ts):=by
  show T162 Ops.std M115 f vs ps ts (R162 M115 f vs ps ts 1000000) some none=_
  unfold T162
  exact r1
 have e2:M114 f vs ps ts=some (decide (0≤r),vs,ps,ts):=by
  show T114 Ops.std M162 M115 f vs ps ts some=_
  unfold T114
  rw [e1,ob_s]
  simp only [qas]
 show T67 Ops.std M115 M114 M95 vs ps ts f some=_
 unfold T67
 rw [e2,ob_s,hr,ob_s]
 rw [List.drop_zero] at r2
 rw [r2]
 simp only [cond_true,qao]
 congr 1
 by_cases h:r<0
 ·simp [h]
 ·simp [h]
end
def isPr (k:Int):Prop:=k=8∨k=9∨k=10
instance (k:Int):Decidable (isPr k):=by unfold isPr;infer_instance
def prF (f:List Prt):Nat→Nat→List Int
 | _,0=>[]
 | i,t+1=>if isPr (f.getD i (Ty.dflt ty66)).1 then (i:Int)::prF f (i+1) t else prF f (i+1) t
theorem prF_mem (f:List Prt):∀ t i (x:Int),x∈prF f i t↔∃ j:Nat,x=j∧i≤j∧j<i+t∧isPr (f.getD j (Ty.dflt ty66)).1
 | 0,i,x=>by
   simp only [prF,List.not_mem_nil,false_iff]
   rintro ⟨j,_,h1,h2,_⟩;omega
 | t+1,i,x=>by
   have ih:=prF_mem f t (i+1) x
   simp only [prF]
   split
   ·rename_i hc
    rw [List.mem_cons,ih]
    constructor
    ·rintro (rfl | ⟨j,h1,h2,h3,h4⟩)
     ·exact ⟨i,rfl,by omega,by omega,hc⟩
     ·exact ⟨j,h1,by omega,by omega,h4⟩
    ·rintro ⟨j,h1,h2,h3,h4⟩
     by_cases e:j=i
     ·exact .inl (by rw [h1,e])
     ·exact .inr ⟨j,h1,by omega,by omega,h4⟩
   ·rename_i hc
    rw [ih]
    constructor
    ·rintro ⟨j,h1,h2,h3,h4⟩
     exact ⟨j,h1,by omega,by omega,h4⟩
    ·rintro ⟨j,h1,h2,h3,h4⟩
     by_cases e:j=i
     ·rw [e] at h4;exact absurd h4 hc
     ·exact ⟨j,h1,by omega,by omega,h4⟩
theorem qdq (f:List Prt):∀ t i,(prF f i t).Pairwise (·<·)
 | 0,i=>by simp [prF]
 | t+1,i=>by
   have ih:=qdq f t (i+1)
   simp only [prF]
   split
   ·refine List.pairwise_cons.2 ⟨fun x hx=>?_,ih⟩
    obtain ⟨j,rfl,h1,_⟩:=(prF_mem f t (i+1) x).1 hx
    omega
   ·exact ih
def prL (f:List Prt):List Int:=prF f 0 f.length
noncomputable abbrev prRR (f:List Prt):=R23 f
theorem prR_loop (f:List Prt) (hf:f.length≤100000):∀ (t i n:Nat) (out:List Int),i+t=f.length→t<n→out.length≤i→prRR f n (.l0 i out)=some (out++prF f i t)
 | t,i,0,out,hi,hn,ho=>by omega
 | 0,i,n+1,out,hi,hn,ho=>by
   show T23 Ops.std f _ some _=_
   unfold T23
   simp only [qad,qaa]
   rw [if_neg (by omega)]
   simp [prF]
 | t+1,i,n+1,out,hi,hn,ho=>by
   have ih:=fun out ho=>prR_loop f hf t (i+1) n out (by omega) (by omega) ho
   show T23 Ops.std f _ some _=_
   unfold T23
   have ci:(0:Int)≤(i:Int)∧(i:Int)<(f.length:Int):=by omega
   simp only [qad,qak,qag,qal,qaa,qab,mt,List.length_cons,List.length_nil,if_pos ci,if_pos ci.2,prF,show IntKind.wrap IntKind.i64 ((i:Int)+1)=((i+1:Nat):Int) from qaf (by omega)]
   generalize (f.getD i (Ty.dflt ty66)).1=k
   have hl:(out.length+(0+1))*8≤140737488355328:=by omega
   by_cases h8:k=8
   ·rw [if_pos h8,if_pos hl,if_pos (show isPr k from .inl h8)];exact (ih _ (by simp;omega)).trans (by simp)
   ·rw [if_neg h8]
    by_cases h9:k=9
    ·rw [if_pos h9,if_pos hl,if_pos (show isPr k from .inr (.inl h9))];exact (ih _ (by simp;omega)).trans (by simp)
    ·rw [if_neg h9]
     by_cases h10:k=10
     ·rw [if_pos h10,if_pos hl,if_pos (show isPr k from .inr (.inr h10))];exact (ih _ (by simp;omega)).trans (by simp)
     ·rw [if_neg h10,if_neg (show ¬ isPr k by unfold isPr;omega)];exact ih _ (by omega)
theorem qe3 (f:List Prt) (hf:f.length≤100000):M23 f=some (prL f):=by
 show T23 Ops.std f (prRR f 1000000) some none=_
 unfold T23
 exact (prR_loop f hf f.length 0 1000000 [] (by omega) (by omega) (by simp)).trans (by simp [prL])
noncomputable abbrev prPR (f:List Prt):=R26 M51 f
def fin6 (l:List Int):Int×List Int:=if 6<l.length then (13,[]) else (0,l)
theorem prP_loop (f:List Prt) (hf:f.length≤100000):∀ (t i n:Nat) (out:List Int),i+t=f.length→t<n→out.length≤i→prPR f n (.l0 (f.length:Nat) i out)=some (fin6 (out++prF f i t))
 | t,i,0,out,hi,hn,ho=>by omega
 | 0,i,n+1,out,hi,hn,ho=>by
   show T26 Ops.std _ f _ some _=_
   unfold T26
   simp only [qad,qaa]
   rw [if_neg (by omega)]
   simp only [prF,List.append_nil,fin6]
   by_cases h:6<out.length
   ·rw [if_pos (by omega),if_pos h]
   ·rw [if_neg (by omega),if_neg h]
 | t+1,i,n+1,out,hi,hn,ho=>by
   have ih:=fun out ho=>prP_loop f hf t (i+1) n out (by omega) (by omega) ho
   show T26 Ops.std _ f _ some _=_
   unfold T26
   have ci:(0:Int)≤(i:Int)∧(i:Int)<(f.length:Int):=by omega
   simp only [qad,qak,qag,qal,qaa,qab,mt,List.length_cons,List.length_nil,if_pos ci,if_pos ci.2,prF,show IntKind.wrap IntKind.i64 ((i:Int)+1)=((i+1:Nat):Int) from qaf (by omega)]
   generalize (f.getD i (Ty.dflt ty66)).1=k
   have hl:(out.length+(0+1))*8≤140737488355328:=by omega
   by_cases h8:k=8
   ·rw [if_pos h8,if_pos hl,if_pos (show isPr k from .inl h8)];exact (ih _ (by simp;omega)).trans (by simp)
   ·rw [if_neg h8]
    by_cases h9:k=9
    ·rw [if_pos h9,if_pos hl,if_pos (show isPr k from .inr (.inl h9))];exact (ih _ (by simp;omega)).trans (by simp)
    ·rw [if_neg h9]
     by_cases h10:k=10
     ·rw [if_pos h10,if_pos hl,if_pos (show isPr k from .inr (.inr h10))];exact (ih _ (by simp;omega)).trans (by simp)
     ·rw [if_neg h10,if_neg (show ¬ isPr k by unfold isPr;omega)];exact ih _ (by omega)
theorem prP_ok (f:List Prt) (hf:f.length≤100000) (b:Bool) (hb:M51 f=some b):M26 f=some (if b=false then ((1:Int),[]) else if 6<(prL f).length then ((13:Int),[]) else ((0:Int),prL f)):=by
 show T26 Ops.std M51 f (prPR f 1000000) some none=_
 unfold T26
 rw [hb,ob_s]
 cases b with
 | false=>rfl
 | true=>
   simp only [Bool.not_true,cond_false]
   exact (prP_loop f hf f.length 0 1000000 [] (by omega) (by omega) (by simp)).trans rfl
def tb (m i:Nat):Bool:=m.testBit i
theorem shr_bit:∀ m:Nat,m<64→∀ i:Nat,i<6→(decide (bitAnd IntKind.i64 (shrI IntKind.i64 (m:Int) (i:Int)) 1=1)=tb m i∧decide (0<bitAnd IntKind.i64 (shrI IntKind.i64 (m:Int) (i:Int)) 1)=tb m i):=by decide +kernel
theorem shr_over:∀ n:Nat,n≤6→∀ m:Nat,m<128→(decide (0<shrI IntKind.i64 (m:Int) (n:Int))=decide (2 ^ n≤m)):=by decide +kernel
theorem shl_one:∀ n:Nat,n≤6→shlI IntKind.i64 1 (n:Int)=((2 ^ n:Nat):Int):=by decide +kernel
theorem qc7:∀ n:Nat,n≤60→IntKind.wrap IntKind.u64 (n:Int)=(n:Int):=by decide +kernel
theorem qa7 {n:Nat} (h:n≤6):2 ^ n≤64:=by
 have:=Nat.pow_le_pow_right (n:=2) (by omega) h
 exact this
def bitG (m:Nat):List Int→Nat→Int→Bool
 | [],_,_=>false
 | x::r,i,pl=>if x=pl then tb m i else bitG m r (i+1) pl
noncomputable abbrev btR (p:List Int) (m:Int) (pl:Int):=R72 p m pl
theorem bit_loop (p:List Int) (m:Nat) (hp:p.length≤6) (hm:m<64) (pl:Int):∀ (t i n:Nat),i+t=p.length→t<n→btR p m pl n (.l0 i)=some (bitG m (p.drop i) i pl)
 | t,i,0,hi,hn=>by omega
 | 0,i,n+1,hi,hn=>by
   show T72 Ops.std p _ pl _ some _=_
   unfold T72
   simp only [qad,qaa]
   rw [if_neg (by omega),List.drop_eq_nil_of_le (by omega)];rfl
 | t+1,i,n+1,hi,hn=>by
   have ih:=bit_loop p m hp hm pl t (i+1) n (by omega) (by omega)
   have sb:=(shr_bit m hm i (by omega)).1
   show T72 Ops.std p _ pl _ some _=_
   unfold T72
   have ci:(0:Int)≤(i:Int)∧(i:Int)<(p.length:Int):=by omega
   simp only [qad,qak,qag,qaa,qab,if_pos ci,if_pos ci.2,qc7 i (by omega),show IntKind.wrap IntKind.i64 ((i:Int)+1)=((i+1:Nat):Int) from qaf (by omega)]
   rw [qau (Ty.dflt ty3) (by omega)]
   simp only [bitG]
   by_cases h:p.getD i (Ty.dflt ty3)=pl
   ·rw [if_pos h,if_pos h,if_neg (by omega)]
    congr 1
   ·rw [if_neg h,if_neg h];exact ih
theorem bit_ok (p:List Int) (m:Nat) (hp:p.length≤6) (hm:m<64) (pl:Int):M72 p (m:Int) pl=some (bitG m p 0 pl):=by
 show T72 Ops.std p (m:Int) pl (btR p m pl 1000000) some none=_
 unfold T72
 exact bit_loop p m hp hm pl p.length 0 1000000 (by omega) (by omega)
theorem bitG_at (m:Nat):∀ (p:List Int) (i j:Nat),p.Pairwise (·<·)→j<p.length→bitG m p i (p.getD j 0)=tb m (i+j)
 | [],i,j,hs,hj=>by simp at hj
 | x::r,i,0,hs,hj=>by simp [bitG]
 | x::r,i,j+1,hs,hj=>by
   obtain ⟨h1,h2⟩:=List.pairwise_cons.1 hs
   have hj':j<r.length:=by simpa using hj
   have hx:x<r.getD j 0:=h1 _ (qav hj' _)
   have e:(x::r).getD (j+1) 0=r.getD j 0:=rfl
   simp only [bitG,e]
   rw [if_neg (by omega),bitG_at m r (i+1) j h2 hj',show i+1+j=i+(j+1) by omega]
def kd (K:List (List Int)) (i j:Nat):Nat:=Int.toNat ((K.getD i (Ty.dflt ty22)).getD j 0)
def pvOp (op:Int) (v a b bit:Bool):Bool:=
 if op=1 then true else if op=3 then v else if op=4 then !a else if op=5 then a && b else if op=6 then a || b
 else if op=8 then bit else if op=9 then b || (a && bit) else if op=10 then b && (a || bit) else false
def pv (f:List Prt) (K:List (List Int)) (bits:Nat→Bool) (V:List Trm→Bool) (i:Nat) (out:List Bool):Bool:=
 pvOp (f.getD i (Ty.dflt ty66)).1 (V (f.getD i (Ty.dflt ty66)).2) (out.getD (kd K i 0) false) (out.getD (kd K i 1) false) (bits i)
def tv (f:List Prt) (K:List (List Int)) (bits:Nat→Bool) (V:List Trm→Bool):Nat→List Bool
 | 0=>[]
 | i+1=>tv f K bits V i++[pv f K bits V i (tv f K bits V i)]
theorem tv_len (f:List Prt) (K:List (List Int)) (bits:Nat→Bool) (V:List Trm→Bool):∀ i,(tv f K bits V i).length=i
 | 0=>rfl
 | i+1=>by rw [tv,List.length_append,tv_len f K bits V i];rfl
theorem Tells.iff {o:Option Bool} {p q:Prop} (h:Tells o p) (hpq:p↔q):Tells o q:=by
 obtain ⟨b,h1,h2⟩:=h
 exact ⟨b,h1,h2.trans hpq⟩
theorem Tells.f {p:Prop} (h:¬ p):Tells (some false) p:=⟨false,rfl,fun e=>(Bool.noConfusion e),fun q=>absurd q h⟩
theorem Tells.t {p:Prop} (h:p):Tells (some true) p:=⟨true,rfl,fun _=>h,fun _=>rfl⟩
theorem Tells.same {o o':Option Bool} {p:Prop} (h:Tells o p) (h':Tells o' p):o=o':=by
 obtain ⟨b,h1,h2⟩:=h
 obtain ⟨b',h1',h2'⟩:=h'
 rw [h1,h1']
 congr 1
 cases b<;>cases b'<;>simp_all
abbrev Wrd:=List UInt8
theorem all_succ {α:Type} {P:Nat→Prop} {l:List α} {i:Nat} (hi:i<l.length):(∀ j,i≤j→j<l.length→P j)↔P i∧∀ j,i+1≤j→j<l.length→P j:=by
 constructor
 ·intro h;exact ⟨h i (Nat.le_refl _) hi,fun j h1 h2=>h j (by omega) h2⟩
 ·intro ⟨h1,h2⟩ j h3 h4
  by_cases e:j=i
  ·rw [e];exact h1
  ·exact h2 j (by omega) h4
def plL (ps:List Pcs) (s:Wrd):List Wrd:=match ps.find? fun p=>p.1 == s with
 | some p=>p.2
 | none=>[]
theorem qed (p:Pcs) (ps:List Pcs) (s:Wrd):plL (p::ps) s=if p.1 == s then p.2 else plL ps s:=by
 unfold plL
 rw [List.find?_cons]
 cases p.1 == s<;>rfl
section
variable {vs:List Vrb} {ps:List Pcs} {ts:List Trn}
theorem qfy (hp:ps.length≤100000) (s:Wrd):∀ (t i n:Nat),i+t=ps.length→t<n→∃ r,R105 vs ps ts s n (.l0 i)=some r∧((r = -1∧plL (ps.drop i) s=[])∨∃ k:Nat,k<ps.length∧r=(k:Int)∧plL (ps.drop i) s=(ps.getD k (Ty.dflt ty98)).2)
 | t,i,0,hi,hn=>by omega
 | 0,i,n+1,hi,hn=>by
   show ∃ r,T105 Ops.std vs ps ts s _ some _=some r∧_
   unfold T105
   simp only [qad,qaa]
   rw [if_neg (by omega),List.drop_eq_nil_of_le (by omega)]
   exact ⟨_,rfl,.inl ⟨rfl,rfl⟩⟩
 | t+1,i,n+1,hi,hn=>by
   have ih:=qfy hp s t (i+1) n (by omega) (by omega)
   show ∃ r,T105 Ops.std vs ps ts s _ some _=some r∧_
   unfold T105
   simp only [qad,qag,qaa,qab,show IntKind.wrap IntKind.i64 ((i:Int)+1)=((i+1:Nat):Int) from qaf (by omega)]
   rw [if_pos (by omega),if_pos (by omega),qau (Ty.dflt ty98) (by omega),qed]
   cases hb:(ps.getD i (Ty.dflt ty98)).1 == s with
   | true=>exact ⟨_,rfl,.inr ⟨i,by omega,rfl,by simp⟩⟩
   | false=>simpa using ih
theorem qe4 (hl:okLocs ps) (p:Nat) (hp:p<ps.length) (s:Wrd):∀ (t i n:Nat),i+t=(ps.getD p (Ty.dflt ty98)).2.length→t<n→∃ r,R108 vs ps ts p s n (.l0 i)=some r∧(0≤r↔s∈(ps.getD p (Ty.dflt ty98)).2.drop i)
 | t,i,0,hi,hn=>by omega
 | 0,i,n+1,hi,hn=>by
   show ∃ r,T108 Ops.std vs ps ts p s _ some _=some r∧_
   unfold T108
   simp only [qad,qag,qaa,qab]
   rw [if_pos (by omega),if_neg (by omega),List.drop_eq_nil_of_le (by omega)]
   exact ⟨_,rfl,by simp⟩
 | t+1,i,n+1,hi,hn=>by
   have ih:=qe4 hl p hp s t (i+1) n (by omega) (by omega)
   have hg:=hl.get p hp
   show ∃ r,T108 Ops.std vs ps ts p s _ some _=some r∧_
   unfold T108
   simp only [qad,qag,qaa,qab,show IntKind.wrap IntKind.i64 ((i:Int)+1)=((i+1:Nat):Int) from qaf (by omega)]
   rw [if_pos (by omega),if_pos (by omega),if_pos (by omega),if_pos (by omega),qau (Ty.dflt Ty.str) (by omega)]
   cases hb:((ps.getD p (Ty.dflt ty98)).2.getD i (Ty.dflt Ty.str) == s) with
   | true=>
     have:(ps.getD p (Ty.dflt ty98)).2.getD i (Ty.dflt Ty.str)=s:=by simpa using hb
     exact ⟨_,rfl,⟨fun _=>by rw [this];exact List.mem_cons_self,fun _=>by omega⟩⟩
   | false=>
     have hne:¬ s=(ps.getD p (Ty.dflt ty98)).2.getD i (Ty.dflt Ty.str):=fun e=>by rw [←e] at hb;simp at hb
     obtain ⟨r,r1,r2⟩:=ih
     exact ⟨r,r1,r2.trans ⟨fun h=>List.mem_cons_of_mem _ h,fun h=>(List.mem_cons.1 h).resolve_left hne⟩⟩
theorem placeR_ok (hg:smallG vs ps) (a:Wrd):∃ q,M105 vs ps ts a=some q∧∀ s,∃ r,M108 vs ps ts q s=some r∧(0≤r↔s∈plL ps a):=by
 obtain ⟨q,q1,q2⟩:=qfy (vs:=vs) (ts:=ts) hg.p a ps.length 0 1000000 (by omega) (by have:=hg.p;omega)
 refine ⟨q,?_,fun s=>?_⟩
 ·show T105 Ops.std vs ps ts a (R105 vs ps ts a 1000000) some none=_
  unfold T105
  exact q1
 ·show ∃ r,T108 Ops.std vs ps ts q s (R108 vs ps ts q s 1000000) some none=some r∧_
  unfold T108
  simp only [qad,qaa,List.drop_zero] at q2 ⊢
  rcases q2 with ⟨rfl,e⟩ | ⟨k,hk,rfl,e⟩
  ·rw [if_pos (by decide),e];exact ⟨_,rfl,by simp⟩
  ·rw [if_neg (by omega),e]
   have:=qe4 (vs:=vs) (ts:=ts) hg.l k hk s _ 0 1000000 (Nat.zero_add _) (by have:=hg.l.get k hk;omega)
   rw [List.drop_zero] at this
   exact this
theorem varR_loop (hv:vs.length≤100000) (s:Wrd):∀ (t i n:Nat),i+t=vs.length→t<n→∃ r,R109 vs ps ts s n (.l0 i)=some r∧(0≤r↔∃ v∈vs.drop i,v.1=s)
 | t,i,0,hi,hn=>by omega
 | 0,i,n+1,hi,hn=>by
   show ∃ r,T109 Ops.std vs ps ts s _ some _=some r∧_
   unfold T109
   simp only [qad,qaa]
   rw [if_neg (by omega),List.drop_eq_nil_of_le (by omega)]
   exact ⟨_,rfl,by simp⟩
 | t+1,i,n+1,hi,hn=>by
   have ih:=varR_loop hv s t (i+1) n (by omega) (by omega)
   show ∃ r,T109 Ops.std vs ps ts s _ some _=some r∧_
   unfold T109
   simp only [qad,qag,qaa,qab,show IntKind.wrap IntKind.i64 ((i:Int)+1)=((i+1:Nat):Int) from qaf (by omega)]
   rw [if_pos (by omega),if_pos (by omega),qau (Ty.dflt ty94) (by omega)]
   cases hb:((vs.getD i (Ty.dflt ty94)).1 == s) with
   | true=>exact ⟨_,rfl,⟨fun _=>⟨_,List.mem_cons_self,by simpa using hb⟩,fun _=>by omega⟩⟩
   | false=>
     have hne:¬ (vs.getD i (Ty.dflt ty94)).1=s:=by simpa using hb
     obtain ⟨r,r1,r2⟩:=ih
     refine ⟨r,r1,r2.trans ⟨fun ⟨v,h1,h2⟩=>⟨v,List.mem_cons_of_mem _ h1,h2⟩,fun ⟨v,h1,h2⟩=>?_⟩⟩
     rcases List.mem_cons.1 h1 with e | h
     ·exact absurd (e ▸ h2) hne
     ·exact ⟨v,h,h2⟩
theorem varR_ok (hv:vs.length≤100000) (s:Wrd):∃ r,M109 vs ps ts s=some r∧(0≤r↔∃ v∈vs,v.1=s):=by
 show ∃ r,T109 Ops.std vs ps ts s (R109 vs ps ts s 1000000) some none=some r∧_
 unfold T109
 have:=varR_loop (ps:=ps) (ts:=ts) hv s vs.length 0 1000000 (by omega) (by omega)
 rwa [List.drop_zero] at this
end
section
variable {vs:List Vrb} {ps:List Pcs} (ts:List Trn)
noncomputable def valS (vs:List Vrb) (ps:List Pcs) (ts:List Trn) (s1 s2:List Int) (e:List Trm):Bool:=!decide ((M64 vs ps ts s1 s2 e).getD 0=0)
noncomputable def atF (vs:List Vrb) (ps:List Pcs) (ts:List Trn) (s1 s2:List Int) (p:Prt):Bool:=if p.1=3 then valS vs ps ts s1 s2 p.2 else false
noncomputable abbrev atR (vs:List Vrb) (ps:List Pcs) (ts:List Trn) (f:List Prt) (s1 s2:List Int):=R71 M64 vs ps ts f s1 s2
theorem qfz (hg:smallG vs ps) (f:List Prt) (hf:f.length≤60) (ha:atmOk f) (s1 s2:List Int):∀ (t i n:Nat) (out:List Bool),i+t=f.length→t<n→out.length=i→atR vs ps ts f s1 s2 n (.l0 i out)=some (out++(f.drop i).map (atF vs ps ts s1 s2))
 | t,i,0,out,hi,hn,ho=>by omega
 | 0,i,n+1,out,hi,hn,ho=>by
   show T71 Ops.std _ vs ps ts f s1 s2 _ some _=_
   unfold T71
   simp only [qad,qaa]
   rw [if_neg (by omega),List.drop_eq_nil_of_le (by omega)];simp
 | t+1,i,n+1,out,hi,hn,ho=>by
   have ih:=fun out ho=>qfz hg f hf ha s1 s2 t (i+1) n out (by omega) (by omega) ho
   obtain ⟨p,hp⟩:∃ p,f.getD i (Ty.dflt ty66)=p:=⟨_,rfl⟩
   have hm:p∈f:=by rw [←hp];exact qav (by omega) _
   show T71 Ops.std _ vs ps ts f s1 s2 _ some _=_
   unfold T71
   have ci:(0:Int)≤(i:Int)∧(i:Int)<(f.length:Int):=by omega
   simp only [qad,qak,qag,qal,qaa,qab,mt,List.length_cons,List.length_nil,if_pos ci,if_pos ci.2,hp,show IntKind.wrap IntKind.i64 ((i:Int)+1)=((i+1:Nat):Int) from qaf (by omega)]
   rw [qau (Ty.dflt ty66) (by omega),hp,List.map_cons]
   have hl:(out.length+(0+1))*1≤140737488355328:=by omega
   by_cases h3:p.1=3
   ·obtain ⟨v,hv⟩:=eval_ok (ts:=ts) hg s1 s2 p.2 (ha p hm h3)
    have e:atF vs ps ts s1 s2 p=!decide (v=0):=by unfold atF valS;rw [if_pos h3,hv];rfl
    rw [if_pos h3,hv,ob_s,if_pos hl,e];exact (ih _ (by simp [ho])).trans (by simp)
   ·have e:atF vs ps ts s1 s2 p=false:=by unfold atF;rw [if_neg h3]
    rw [if_neg h3,if_pos hl,e];exact (ih _ (by simp [ho])).trans (by simp)
theorem atoms_ok (hg:smallG vs ps) (f:List Prt) (hf:f.length≤60) (ha:atmOk f) (s1 s2:List Int):M71 vs ps ts f s1 s2=some (f.map (atF vs ps ts s1 s2)):=by
 show T71 Ops.std M64 vs ps ts f s1 s2 (atR vs ps ts f s1 s2 1000000) some none=_
 unfold T71
 exact (qfz ts hg f hf ha s1 s2 f.length 0 1000000 [] (by omega) (by omega) rfl).trans (by simp)
end
theorem ops0 {k:Int} (h:opn k=0):k=1∨k=2∨k=3:=by
 unfold opn at h;split at h<;>first | assumption | (split at h<;>first | omega | (split at h<;>omega))
theorem ops1 {k:Int} (h:opn k=1):k=4∨k=8∨k=11∨k=12:=by
 unfold opn at h;split at h<;>first | omega | (split at h<;>first | assumption | (split at h<;>omega))
theorem ops2 {k:Int} (h:opn k=2):k=5∨k=6∨k=7∨k=9∨k=10:=by
 unfold opn at h;split at h<;>first | omega | (split at h<;>first | omega | (split at h<;>first | assumption | omega))
def nodeK (f:List Prt) (K:List (List Int)) (i:Nat):Prop:=
 (opn (f.getD i (Ty.dflt ty66)).1=0∧K.getD i (Ty.dflt ty22)=[])∨
 (opn (f.getD i (Ty.dflt ty66)).1=1∧∃ x:Nat,x<i∧K.getD i (Ty.dflt ty22)=[(x:Int)])∨
 (opn (f.getD i (Ty.dflt ty66)).1=2∧∃ x y:Nat,x<i∧y<i∧K.getD i (Ty.dflt ty22)=[(x:Int),(y:Int)])
theorem nodeK_of {t:Fm Trm} (ht:WF t) (i:Nat) (hi:i<t.size):nodeK t.flat (t.kids 0) i:=by
 obtain ⟨u,u1,_,u3,_,u5⟩:=node_at (E:=rightE) (fun _=>True) (fun _ _ _=>trivial) (fun _ _ _ _=>⟨trivial,trivial⟩) t ht trivial 0 (At.all t) i (by omega) (by omega)
 unfold nodeK
 rw [u3]
 cases u with
 | nul p=>exact .inl ⟨u1.1,u5⟩
 | un p a=>obtain ⟨x,x1,x2,_⟩:=u5;exact .inr (.inl ⟨u1.1,x,x1,x2⟩)
 | bi p a c=>obtain ⟨x,y,x1,y1,x2,_⟩:=u5;exact .inr (.inr ⟨u1.1,x,y,x1,y1,x2⟩)
section
variable (f:List Prt) (K:List (List Int)) (p:List Int) (m:Nat) (V:List Trm→Bool) (at':List Bool)
noncomputable abbrev tuR:=R70 M72 f K p (m:Int) at'
abbrev bitsOf (p:List Int) (m:Nat) (i:Nat):Bool:=bitG m p 0 (i:Int)
theorem qf0 (hf:f.length≤60) (hK:K.length=f.length) (hnode:∀ i,i<f.length→nodeK f K i) (hp:p.length≤6) (hm:m<64) (hat:at'.length=f.length) (hV:∀ i,i<f.length→(f.getD i (Ty.dflt ty66)).1=3→at'.getD i (Ty.dflt ty4)=V (f.getD i (Ty.dflt ty66)).2) :
  ∀ (t i n:Nat),i+t=f.length→4*t<n→tuR f K p m at' n (.l0 i (tv f K (bitsOf p m) V i))=some (tv f K (bitsOf p m) V f.length)
 | t,i,0,hi,hn=>by omega
 | 0,i,n+1,hi,hn=>by
   show T70 Ops.std _ f K p _ at' _ some _=_
   unfold T70
   simp only [qad,qaa]
   rw [if_neg (by omega),show i=f.length by omega]
 | t+1,i,n+1,hi,hn=>by
   obtain ⟨n,rfl⟩:∃ n',n=n'+3:=⟨n-3,by omega⟩
   have hlt:i<f.length:=by omega
   have ih:=qf0 hf hK hnode hp hm hat hV t (i+1) n (by omega) (by omega)
   obtain ⟨L,hL⟩:∃ L,tv f K (bitsOf p m) V i=L:=⟨_,rfl⟩
   have hLl:L.length=i:=by rw [←hL];exact tv_len f K _ V i
   rw [tv,hL] at ih
   rw [hL]
   have ci:(0:Int)≤(i:Int)∧(i:Int)<(f.length:Int):=by omega
   have cK:(0:Int)≤(i:Int)∧(i:Int)<(K.length:Int):=by omega
   have cA:(0:Int)≤(i:Int)∧(i:Int)<(at'.length:Int):=by omega
   have hw:IntKind.wrap IntKind.i64 ((i:Int)+1)=((i+1:Nat):Int):=qaf (by omega)
   have h29:∀ v,tuR f K p m at' (n+1) (.l1029 i v L)=tuR f K p m at' n (.l0 ((i+1:Nat):Int) (L++[v])):=fun v=>by
    show T70 Ops.std _ f K p _ at' _ some _=_
    unfold T70
    simp only [qal,qaa,mt,List.length_cons,List.length_nil,hw]
    rw [if_pos (by omega)]
   obtain ⟨q,hq⟩:∃ q,f.getD i (Ty.dflt ty66)=q:=⟨_,rfl⟩
   have h11:∀ a b,tuR f K p m at' (n+2) (.l1011 i a b L)=tuR f K p m at' (n+1) (.l1029 i (pvOp q.1 (V q.2) a b (bitsOf p m i)) L):=fun a b=>by
    show T70 Ops.std _ f K p _ at' _ some _=_
    unfold T70 pvOp
    simp only [qak,qag,qaa,qab,if_pos ci,if_pos cA,hq,bit_ok p m hp hm,ob_s]
    by_cases o1:q.1=1
    ·rw [if_pos o1,if_pos o1]
    rw [if_neg o1,if_neg o1]
    by_cases o3:q.1=3
    ·have:=hV i hlt (by rw [hq];exact o3)
     rw [hq] at this
     rw [if_pos o3,if_pos o3,this]
    rw [if_neg o3,if_neg o3]
    by_cases o4:q.1=4
    ·rw [if_pos o4,if_pos o4]
    rw [if_neg o4,if_neg o4]
    by_cases o5:q.1=5
    ·rw [if_pos o5,if_pos o5];cases a<;>rfl
    rw [if_neg o5,if_neg o5]
    by_cases o6:q.1=6
    ·rw [if_pos o6,if_pos o6];cases a<;>rfl
    rw [if_neg o6,if_neg o6]
    by_cases o8:q.1=8
    ·rw [if_pos o8,if_pos o8]
    rw [if_neg o8,if_neg o8]
    by_cases o9:q.1=9
    ·rw [if_pos o9,if_pos o9];cases b<;>cases a<;>simp
    rw [if_neg o9,if_neg o9]
    by_cases o10:q.1=10
    ·rw [if_pos o10,if_pos o10];cases b<;>cases a<;>simp
    rw [if_neg o10,if_neg o10]
   have fin:∀ a b,tuR f K p m at' (n+4) (.l0 i L)=tuR f K p m at' (n+2) (.l1011 i a b L)→pvOp q.1 (V q.2) a b (bitsOf p m i)=pv f K (bitsOf p m) V i L→tuR f K p m at' (n+3+1) (.l0 i L)=some (tv f K (bitsOf p m) V f.length):=fun a b h1 h2=>by
    refine h1.trans ((h11 a b).trans ((h29 _).trans ?_))
    rw [h2];exact ih
   have g0:∀ (x:Int) (l:List Int) (d:Int),(x::l).getD (Int.toNat 0) d=x:=fun x l d=>rfl
   have g1:∀ (x y:Int) (l:List Int) (d:Int),(x::y::l).getD (Int.toNat 1) d=y:=fun x y l d=>rfl
   have eL:∀ j,L.getD j (Ty.dflt ty4)=L.getD j false:=fun j=>rfl
   rcases hnode i hlt with ⟨k1,k2⟩ | ⟨k1,x,hx,k2⟩ | ⟨k1,x,y,hx,hy,k2⟩
   ·refine fin false false ?_ ?_
    ·show T70 Ops.std _ f K p _ at' _ some _=_
     unfold T70
     simp only [qad,qag,qaa,qab,if_pos ci,if_pos ci.2,if_pos cK,if_pos cK.2,k2,List.length_nil]
     rw [if_neg (by omega)]
     show T70 Ops.std _ f K p _ at' _ some _=_
     unfold T70
     simp only [qad,qag,qaa,qab,if_pos cK,k2,List.length_nil]
     rw [if_neg (by omega)]
    ·rw [hq] at k1
     unfold pv pvOp
     rw [hq]
     rcases ops0 k1 with h | h | h<;>rw [h]<;>rfl
   ·have hkd:kd K i 0=x:=by unfold kd;rw [k2];simp
    refine fin (L.getD x false) false ?_ ?_
    ·show T70 Ops.std _ f K p _ at' _ some _=_
     unfold T70
     have cx:(x:Int)<(L.length:Int):=by omega
     have cx2:(0:Int)≤(x:Int)∧(x:Int)<(L.length:Int):=by omega
     simp only [qad,qag,qaa,qab,if_pos ci,if_pos ci.2,if_pos cK,if_pos cK.2,k2,List.length_cons,List.length_nil,g0,eL]
     rw [if_pos (by omega),if_pos (by omega),if_pos cx,if_pos (by omega),if_pos cx2]
     show T70 Ops.std _ f K p _ at' _ some _=_
     unfold T70
     simp only [qad,qag,qaa,qab,if_pos cK,k2,List.length_cons,List.length_nil]
     rw [if_neg (by omega)]
    ·rw [hq] at k1
     unfold pv pvOp
     rw [hq,hkd]
     rcases ops1 k1 with h | h | h | h<;>rw [h]<;>rfl
   ·have hkd:kd K i 0=x:=by unfold kd;rw [k2];simp
    have hkd1:kd K i 1=y:=by unfold kd;rw [k2];simp
    refine fin (L.getD x false) (L.getD y false) ?_ (by unfold pv;rw [hq,hkd,hkd1])
    show T70 Ops.std _ f K p _ at' _ some _=_
    unfold T70
    have cx:(x:Int)<(L.length:Int):=by omega
    have cx2:(0:Int)≤(x:Int)∧(x:Int)<(L.length:Int):=by omega
    have cy:(y:Int)<(L.length:Int):=by omega
    have cy2:(0:Int)≤(y:Int)∧(y:Int)<(L.length:Int):=by omega
    simp only [qad,qag,qaa,qab,if_pos ci,if_pos ci.2,if_pos cK,if_pos cK.2,k2,List.length_cons,List.length_nil,g0,eL]
    rw [if_pos (by omega),if_pos (by omega),if_pos cx,if_pos (by omega),if_pos cx2]
    show T70 Ops.std _ f K p _ at' _ some _=_
    unfold T70
    simp only [qad,qag,qaa,qab,if_pos cK,k2,List.length_cons,List.length_nil,g1,eL]
    rw [if_pos (by omega),if_pos (by omega),if_pos cy,if_pos (by omega),if_pos cy2]
theorem truth_ok (hf:f.length≤60) (hK:K.length=f.length) (hnode:∀ i,i<f.length→nodeK f K i) (hp:p.length≤6) (hm:m<64) (hat:at'.length=f.length) (hV:∀ i,i<f.length→(f.getD i (Ty.dflt ty66)).1=3→at'.getD i (Ty.dflt ty4)=V (f.getD i (Ty.dflt ty66)).2):M70 f K p (m:Int) at'=some (tv f K (bitsOf p m) V f.length):=by
 show T70 Ops.std M72 f K p (m:Int) at' (tuR f K p m at' 1000000) some none=_
 unfold T70
 exact qf0 f K p m V at' hf hK hnode hp hm hat hV f.length 0 1000000 (by omega) (by omega)
end
section
variable {vs:List Vrb} {ps:List Pcs} (ts:List Trn)
noncomputable def tvM (vs:List Vrb) (ps:List Pcs) (ts:List Trn) (t:Fm Trm) (s1 s2:List Int) (m:Nat):List Bool:=tv t.flat (t.kids 0) (bitsOf (prL t.flat) m) (valS vs ps ts s1 s2) t.flat.length
theorem qe5 (t:Fm Trm) (s1 s2:List Int) (m:Nat):(tvM vs ps ts t s1 s2 m).length=t.size:=by
 unfold tvM;rw [tv_len,t.flat_len]
theorem qe6 (hg:smallG vs ps) {t:Fm Trm} (ht:WF t) (h60:t.size≤60) (hp:(prL t.flat).length≤6) (s1 s2:List Int) (m:Nat) (hm:m<64):M32 vs ps ts t.flat (m:Int) s1 s2=some (tvM vs ps ts t s1 s2 m):=by
 have hfl:=t.flat_len
 have hkl:=t.kids_len 0
 show T32 Ops.std M37 M23 M71 M70 vs ps ts t.flat (m:Int) s1 s2 some=_
 unfold T32
 rw [qca rightE ht h60 (qeb ht h60),ob_s,qe3 _ (by omega),ob_s,atoms_ok ts hg t.flat (by omega) (wf_atm ht) s1 s2,ob_s]
 rw [truth_ok t.flat (t.kids 0) (prL t.flat) m (valS vs ps ts s1 s2) _ (by omega) (by omega) (fun i hi=>nodeK_of ht i (by omega)) hp hm (by simp) (fun i hi h3=>?_),ob_s]
 ·rfl
 ·have e:(t.flat.map (atF vs ps ts s1 s2)).getD i (Ty.dflt ty4)=atF vs ps ts s1 s2 (t.flat.getD i (Ty.dflt ty66)):=by
   rw [List.getD_eq_getElem?_getD,List.getElem?_map,List.getD_eq_getElem?_getD,List.getElem?_eq_getElem hi];rfl
  rw [e]
  unfold atF
  rw [if_pos h3]
end
def whatP (f:List Prt) (K:List (List Int)) (i:Nat):Nat:=if (f.getD i (Ty.dflt ty66)).1=8 then kd K i 0 else i
def fitG (f:List Prt) (K:List (List Int)) (p:List Int) (m:Nat) (nxt:List Bool) (i:Nat):Prop:=∀ j,i≤j→j<p.length→nxt.getD (whatP f K (p.getD j 0).toNat) false=tb m j
theorem prL_at {t:Fm Trm} (j:Nat) (hj:j<(prL t.flat).length):∃ x:Nat,(prL t.flat).getD j 0=(x:Int)∧x<t.size∧isPr (t.flat.getD x (Ty.dflt ty66)).1:=by
 obtain ⟨x,h1,h2,h3,h4⟩:=(prF_mem t.flat t.flat.length 0 _).1 (qav hj 0)
 exact ⟨x,h1,by have:=t.flat_len;omega,h4⟩
theorem un_kid {t:Fm Trm} (ht:WF t) (x:Nat) (hx:x<t.size) (h8:(t.flat.getD x (Ty.dflt ty66)).1=8):∃ y:Nat,y<x∧(t.kids 0).getD x (Ty.dflt ty22)=[(y:Int)]∧kd (t.kids 0) x 0=y:=by
 rcases nodeK_of ht x hx with ⟨k1,_⟩ | ⟨k1,y,hy,k2⟩ | ⟨k1,_⟩
 ·rw [h8] at k1;exact absurd k1 (by decide)
 ·exact ⟨y,hy,k2,by unfold kd;rw [k2];simp⟩
 ·rw [h8] at k1;exact absurd k1 (by decide)
noncomputable abbrev fiR (f:List Prt) (m:Nat) (nxt:List Bool):=R34 M37 M23 M72 f (m:Int) nxt
theorem bool_ne (a b:Bool):(!(a == b))=true↔¬ a=b:=by cases a<;>cases b<;>simp
theorem qf1 {t:Fm Trm} (ht:WF t) (h60:t.size≤60) (hp:(prL t.flat).length≤6) (m:Nat) (hm:m<64) (nxt:List Bool) (hn:nxt.length=t.size):∀ (k i n:Nat),i+k=(prL t.flat).length→k<n→Tells (fiR t.flat m nxt n (.l0 i (t.kids 0) (prL t.flat))) (fitG t.flat (t.kids 0) (prL t.flat) m nxt i)
 | k,i,0,hi,hn'=>by omega
 | 0,i,n+1,hi,hn'=>by
   show Tells (T34 Ops.std _ _ _ t.flat _ nxt _ some _) _
   unfold T34
   simp only [qad,qaa]
   rw [if_neg (by omega)]
   exact Tells.t fun j h1 h2=>by omega
 | k+1,i,n+1,hi,hn'=>by
   have hfl:=t.flat_len
   have hkl:=t.kids_len 0
   have ih:=qf1 ht h60 hp m hm nxt hn k (i+1) n (by omega) (by omega)
   obtain ⟨x,hx,hxl,hxp⟩:=prL_at (t:=t) i (by omega)
   have hx':(prL t.flat).getD i (Ty.dflt ty3)=(x:Int):=hx
   have hbit:=bitG_at m (prL t.flat) 0 i (qdq t.flat t.flat.length 0) (by omega)
   rw [hx,Nat.zero_add] at hbit
   have cp:(0:Int)≤(i:Int)∧(i:Int)<((prL t.flat).length:Int):=by omega
   have cx:(0:Int)≤(x:Int)∧(x:Int)<(t.flat.length:Int):=by omega
   have cK:(0:Int)≤(x:Int)∧(x:Int)<((t.kids 0).length:Int):=by omega
   have step:fitG t.flat (t.kids 0) (prL t.flat) m nxt i↔nxt.getD (whatP t.flat (t.kids 0) x) false=tb m i∧fitG t.flat (t.kids 0) (prL t.flat) m nxt (i+1):=by
    have e:=all_succ (P:=fun j=>nxt.getD (whatP t.flat (t.kids 0) ((prL t.flat).getD j 0).toNat) false=tb m j) (show i<(prL t.flat).length by omega)
    unfold fitG
    rw [e,hx,qab]
   show Tells (T34 Ops.std _ _ _ t.flat _ nxt _ some _) _
   unfold T34
   simp only [qad,qak,qag,qaa,qab,if_pos cp,if_pos cp.2,hx',if_pos cx,if_pos cK,bit_ok _ m hp hm,ob_s,hbit,show IntKind.wrap IntKind.i64 ((i:Int)+1)=((i+1:Nat):Int) from qaf (by omega)]
   rw [step]
   have goal:∀ (w:Nat),w=whatP t.flat (t.kids 0) x→Tells (cond (!(tb m i == nxt.getD w (Ty.dflt ty4))) (some false) (fiR t.flat m nxt n (.l0 ((i+1:Nat):Int) (t.kids 0) (prL t.flat)))) (nxt.getD (whatP t.flat (t.kids 0) x) false=tb m i∧fitG t.flat (t.kids 0) (prL t.flat) m nxt (i+1)):=fun w hw=>by
    subst hw
    have e:nxt.getD (whatP t.flat (t.kids 0) x) (Ty.dflt ty4)=nxt.getD (whatP t.flat (t.kids 0) x) false:=rfl
    rw [e]
    cases hb:(!(tb m i == nxt.getD (whatP t.flat (t.kids 0) x) false)) with
    | true=>exact Tells.f fun h=>(bool_ne _ _).1 hb h.1.symm
    | false=>
      have:tb m i=nxt.getD (whatP t.flat (t.kids 0) x) false:=Classical.byContradiction fun h=>by rw [(bool_ne _ _).2 h] at hb;cases hb
      exact ih.iff ⟨fun h=>⟨this.symm,h⟩,fun h=>h.2⟩
   by_cases h8:(t.flat.getD x (Ty.dflt ty66)).1=8
   ·obtain ⟨y,hy,k2,k3⟩:=un_kid ht x hxl h8
    have g0:∀ d,[(y:Int)].getD (Int.toNat 0) d=(y:Int):=fun d=>rfl
    rw [if_pos h8]
    simp only [k2,List.length_cons,List.length_nil,g0,qab]
    rw [if_pos (by omega),if_pos (by omega)]
    exact goal y (by unfold whatP;rw [if_pos h8,k3])
   ·rw [if_neg h8,if_pos (by omega)]
    exact goal x (by unfold whatP;rw [if_neg h8])
theorem FitsR_ok {t:Fm Trm} (ht:WF t) (h60:t.size≤60) (hp:(prL t.flat).length≤6) (m:Nat) (hm:m<64) (nxt:List Bool) (hn:nxt.length=t.size):Tells (M34 t.flat (m:Int) nxt) (fitG t.flat (t.kids 0) (prL t.flat) m nxt 0):=by
 have hfl:=t.flat_len
 show Tells (T34 Ops.std M37 M23 M72 t.flat (m:Int) nxt (fiR t.flat m nxt 1000000) some none) _
 unfold T34
 rw [qca rightE ht h60 (qeb ht h60),ob_s,qe3 _ (by omega),ob_s]
 exact qf1 ht h60 hp m hm nxt hn (prL t.flat).length 0 1000000 (by omega) (by omega)
theorem prP_T {t:Fm Trm} (ht:WF t) (hi:isT t=true) (h60:t.size≤60) (hp:(prL t.flat).length≤6):M26 t.flat=some ((0:Int),prL t.flat):=by
 rw [prP_ok t.flat (by have:=t.flat_len;omega) true (by rw [T_IsP ht h60,hi])]
 rw [if_neg (by simp),if_neg (by omega)]
noncomputable abbrev fiP (f:List Prt) (m:Nat) (nxt:List Bool):=R33 M26 M52 f (m:Int) nxt
theorem qf2 {t:Fm Trm} (ht:WF t) (h60:t.size≤60) (hp:(prL t.flat).length≤6) (m:Nat) (hm:m<64) (nxt:List Bool) (hn:nxt.length=t.size):∀ (k i n:Nat),i+k=(prL t.flat).length→k<n→Tells (fiP t.flat m nxt n (.l0 ((prL t.flat).length:Nat) i (t.kids 0) (prL t.flat))) (fitG t.flat (t.kids 0) (prL t.flat) m nxt i)
 | k,i,0,hi,hn'=>by omega
 | 0,i,n+1,hi,hn'=>by
   show Tells (T33 Ops.std _ _ t.flat _ nxt _ some _) _
   unfold T33
   simp only [qad,qaa]
   rw [if_neg (by omega)]
   exact Tells.t fun j h1 h2=>by omega
 | k+1,i,n+1,hi,hn'=>by
   have hfl:=t.flat_len
   have hkl:=t.kids_len 0
   have ih:=qf2 ht h60 hp m hm nxt hn k (i+1) n (by omega) (by omega)
   obtain ⟨x,hx,hxl,hxp⟩:=prL_at (t:=t) i (by omega)
   have hx':(prL t.flat).getD i (Ty.dflt ty3)=(x:Int):=hx
   have cp:(0:Int)≤(i:Int)∧(i:Int)<((prL t.flat).length:Int):=by omega
   have cx:(0:Int)≤(x:Int)∧(x:Int)<(t.flat.length:Int):=by omega
   have cK:(0:Int)≤(x:Int)∧(x:Int)<((t.kids 0).length:Int):=by omega
   have sb:=(shr_bit m hm i (by omega)).2
   have step:fitG t.flat (t.kids 0) (prL t.flat) m nxt i↔nxt.getD (whatP t.flat (t.kids 0) x) false=tb m i∧fitG t.flat (t.kids 0) (prL t.flat) m nxt (i+1):=by
    have e:=all_succ (P:=fun j=>nxt.getD (whatP t.flat (t.kids 0) ((prL t.flat).getD j 0).toNat) false=tb m j) (show i<(prL t.flat).length by omega)
    unfold fitG
    rw [e,hx,qab]
   show Tells (T33 Ops.std _ _ t.flat _ nxt _ some _) _
   unfold T33
   simp only [qad,qak,qag,qaa,qab,if_pos cp,if_pos cp.2,hx',if_pos cx,if_pos cK,cond_false,sb,show IntKind.wrap IntKind.i64 ((i:Int)+1)=((i+1:Nat):Int) from qaf (by omega)]
   rw [step]
   have goal:∀ (w:Nat),w=whatP t.flat (t.kids 0) x→Tells (cond (!(nxt.getD w (Ty.dflt ty4) == tb m i)) (some false) (fiP t.flat m nxt n (.l0 ((prL t.flat).length:Nat) ((i+1:Nat):Int) (t.kids 0) (prL t.flat)))) (nxt.getD (whatP t.flat (t.kids 0) x) false=tb m i∧fitG t.flat (t.kids 0) (prL t.flat) m nxt (i+1)):=fun w hw=>by
    subst hw
    have e:nxt.getD (whatP t.flat (t.kids 0) x) (Ty.dflt ty4)=nxt.getD (whatP t.flat (t.kids 0) x) false:=rfl
    rw [e]
    cases hb:(!(nxt.getD (whatP t.flat (t.kids 0) x) false == tb m i)) with
    | true=>exact Tells.f fun h=>(bool_ne _ _).1 hb h.1
    | false=>
      have:nxt.getD (whatP t.flat (t.kids 0) x) false=tb m i:=Classical.byContradiction fun h=>by rw [(bool_ne _ _).2 h] at hb;cases hb
      exact ih.iff ⟨fun h=>⟨this,h⟩,fun h=>h.2⟩
   by_cases h8:(t.flat.getD x (Ty.dflt ty66)).1=8
   ·obtain ⟨y,hy,k2,k3⟩:=un_kid ht x hxl h8
    have g0:∀ d,[(y:Int)].getD (Int.toNat 0) d=(y:Int):=fun d=>rfl
    rw [if_pos h8]
    simp only [k2,List.length_cons,List.length_nil,g0,qab]
    rw [if_pos (by omega),if_pos (by omega),if_neg (by omega)]
    exact goal y (by unfold whatP;rw [if_pos h8,k3])
   ·rw [if_neg h8,if_pos (by omega),if_neg (by omega)]
    exact goal x (by unfold whatP;rw [if_neg h8])
theorem FitsP_ok {t:Fm Trm} (ht:WF t) (hi:isT t=true) (h60:t.size≤60) (hp:(prL t.flat).length≤6) (m:Nat) (hm:m<2 ^ (prL t.flat).length) (nxt:List Bool) (hn:nxt.length=t.size):Tells (M33 t.flat (m:Int) nxt) (fitG t.flat (t.kids 0) (prL t.flat) m nxt 0):=by
 have hfl:=t.flat_len
 have h64:=qa7 hp
 have ho:=shr_over (prL t.flat).length hp m (by omega)
 show Tells (T33 Ops.std M26 M52 t.flat (m:Int) nxt (fiP t.flat m nxt 1000000) some none) _
 unfold T33
 rw [prP_T ht hi h60 hp,ob_s]
 simp only [qak,qad,qao,qaa,cond_false]
 rw [if_neg (by simp),if_neg (by omega),if_neg (by omega),if_neg (by omega),if_neg (by have:=of_decide_eq_false (ho.trans (decide_eq_false (show ¬ 2 ^ (prL t.flat).length≤m by omega)));exact this),qbw rightE ht h60 (qc2 ht h60),ob_s]
 exact qf2 ht h60 hp m (by omega) nxt hn (prL t.flat).length 0 1000000 (by omega) (by omega)
theorem partT_ok (op:Int) (e:List Trm) (kids:List Bool) (v bit a b:Bool) (hk:(opn op=0∧kids=[])∨(opn op=1∧kids=[a])∨(opn op=2∧kids=[a,b])):M69 op e kids v bit=some (pvOp op v a b bit):=by
 show T69 Ops.std op e kids v bit some=_
 unfold T69 pvOp
 simp only [qak,qag,qaa]
 rcases hk with ⟨h,rfl⟩ | ⟨h,rfl⟩ | ⟨h,rfl⟩
 ·rcases ops0 h with rfl | rfl | rfl<;>rfl
 ·rcases ops1 h with rfl | rfl | rfl | rfl<;>rfl
 ·rcases ops2 h with rfl | rfl | rfl | rfl | rfl<;>cases a<;>cases b<;>simp<;>rfl
def mgI (m:List (Int×Bool)) (x:Int):Bool:=Option.getD (mget (Ty.int IntKind.i64) m x) (Ty.dflt Ty.bool)
theorem mgI_put:∀ (m:List (Int×Bool)) (k:Int) (v:Bool) (x:Int),mgI (mput (Ty.int IntKind.i64) m k v) x=if k=x then v else mgI m x
 | [],k,v,x=>by
  show Option.getD (cond (decide (k=x)) (some v) none) false=_
  by_cases h:k=x
  ·simp [h]
  ·simp [h,mgI,mget];rfl
 | (e,b)::m,k,v,x=>by
   have ih:=mgI_put m k v x
   by_cases h1:e=k
   ·subst h1
    have e1:mput (Ty.int IntKind.i64) ((e,b)::m) e v=(e,v)::m:=by simp [mput,Ty.keq]
    rw [e1]
    show Option.getD (cond (decide (e=x)) (some v) (mget (Ty.int IntKind.i64) m x)) false=if e=x then v else Option.getD (cond (decide (e=x)) (some b) (mget (Ty.int IntKind.i64) m x)) false
    by_cases h:e=x<;>simp [h]
   ·have e1:mput (Ty.int IntKind.i64) ((e,b)::m) k v=(e,b)::mput (Ty.int IntKind.i64) m k v:=by simp [mput,Ty.keq,h1]
    rw [e1]
    show Option.getD (cond (decide (e=x)) (some b) (mget (Ty.int IntKind.i64) (mput (Ty.int IntKind.i64) m k v) x)) false=if k=x then v else Option.getD (cond (decide (e=x)) (some b) (mget (Ty.int IntKind.i64) m x)) false
    by_cases h:e=x
    ·have:¬ k=x:=fun q=>h1 (h.trans q.symm)
     simp [h,this]
    ·simp only [h,decide_false,cond_false];exact ih
theorem bitG_app (m:Nat):∀ (l:List Int) (j:Nat) (y x:Int),y ∉ l→bitG m (l++[y]) j x=if y=x then tb m (j+l.length) else bitG m l j x
 | [],j,y,x,h=>by simp [bitG]
 | z::l,j,y,x,h=>by
   rw [List.mem_cons,not_or] at h
   simp only [List.cons_append,bitG]
   rw [bitG_app m l (j+1) y x h.2]
   by_cases hz:z=x
   ·have:¬ y=x:=fun e=>h.1 (e.trans hz.symm)
    rw [if_pos hz,if_neg this,if_pos hz]
   ·rw [if_neg hz,if_neg hz]
    simp only [List.length_cons]
    rw [show j+1+l.length=j+(l.length+1) by omega]
theorem sorted_fresh {p:List Int} (hs:p.Pairwise (·<·)) (i:Nat) (hi:i<p.length):p.getD i 0 ∉ p.take i:=by
 intro hm
 obtain ⟨k,hk,e⟩:=List.mem_iff_getElem.1 hm
 rw [List.length_take] at hk
 rw [List.getElem_take] at e
 have:=List.pairwise_iff_getElem.1 hs k i (by omega) hi (by omega)
 rw [List.getD_eq_getElem?_getD,List.getElem?_eq_getElem hi] at e
 simp only [Option.getD_some] at e
 omega
theorem pvOp_ne3 {op:Int} (h:op≠3) (v v' a b bit:Bool):pvOp op v a b bit=pvOp op v' a b bit:=by
 unfold pvOp
 simp only [h,if_false]
section
variable {vs:List Vrb} {ps:List Pcs} {ts:List Trn}
noncomputable abbrev trP (vs:List Vrb) (ps:List Pcs) (ts:List Trn) (f:List Prt) (m:Nat) (s1 s2:List Int):=R31 M26 M67 M52 M68 M69 vs ps ts f (m:Int) s1 s2
theorem trP_l1 (hg:smallG vs ps) {t:Fm Trm} (ht:WF t) (h60:t.size≤60) (s1 s2:List Int) (m:Nat) (bits:List (Int×Bool)) (hbits:∀ x,mgI bits x=bitG m (prL t.flat) 0 x) :
  ∀ (k i n:Nat),i+k=t.size→5*k<n→trP vs ps ts t.flat m s1 s2 n (.l1 (t.size:Nat) i bits (tv t.flat (t.kids 0) (bitsOf (prL t.flat) m) (valS vs ps ts s1 s2) i) (t.kids 0))=some (tvM vs ps ts t s1 s2 m)
 | k,i,0,hi,hn=>by omega
 | 0,i,n+1,hi,hn=>by
   have hfl:=t.flat_len
   show T31 Ops.std _ _ _ _ _ vs ps ts t.flat _ s1 s2 _ some _=_
   unfold T31
   simp only [qad,qaa]
   rw [if_neg (by omega)]
   unfold tvM
   rw [show i=t.flat.length by omega]
 | k+1,i,n+1,hi,hn=>by
   obtain ⟨n,rfl⟩:∃ n',n=n'+3:=⟨n-3,by omega⟩
   have hfl:=t.flat_len
   have hkl:=t.kids_len 0
   obtain ⟨L,hL⟩:∃ L,tv t.flat (t.kids 0) (bitsOf (prL t.flat) m) (valS vs ps ts s1 s2) i=L:=⟨_,rfl⟩
   have hLl:L.length=i:=by rw [←hL];exact tv_len _ _ _ _ i
   have ih:=fun n hn=>trP_l1 hg ht h60 s1 s2 m bits hbits k (i+1) n (by omega) hn
   rw [tv,hL] at ih
   rw [hL]
   obtain ⟨q,hq⟩:∃ q,t.flat.getD i (Ty.dflt ty66)=q:=⟨_,rfl⟩
   have hm:q∈t.flat:=by rw [←hq];exact qav (by omega) _
   have ci:(0:Int)≤(i:Int)∧(i:Int)<((t.flat.length:Nat):Int):=by omega
   have hw:IntKind.wrap IntKind.i64 ((i:Int)+1)=((i+1:Nat):Int):=qaf (by omega)
   have e0:∀ ks,(t.kids 0).getD i (Ty.dflt ty22)=ks→trP vs ps ts t.flat m s1 s2 (n+3+1) (.l1 (t.size:Nat) i bits L (t.kids 0))=trP vs ps ts t.flat m s1 s2 (n+3) (.l2 (i:Int) (t.size:Nat) (i:Int) ks (ks.length:Nat) 0 bits L [] (t.kids 0)):=fun ks hks=>by
    show T31 Ops.std _ _ _ _ _ vs ps ts t.flat _ s1 s2 _ some _=_
    unfold T31
    simp only [qad,qag,qaa,qab,hks]
    rw [if_pos (by omega),if_pos (by omega)]
   have inn:∀ (ks:List Int) (j x:Nat) (acc:List Bool) (w:Nat),j<ks.length→ks.length≤2→acc.length=j→(∀ d,ks.getD j d=(x:Int))→x<i→
     trP vs ps ts t.flat m s1 s2 (w+1) (.l2 (i:Int) (t.size:Nat) (i:Int) ks (ks.length:Nat) (j:Nat) bits L acc (t.kids 0))=trP vs ps ts t.flat m s1 s2 w (.l2 (i:Int) (t.size:Nat) (i:Int) ks (ks.length:Nat) ((j+1:Nat):Int) bits L (acc++[L.getD x false]) (t.kids 0)):=by
    intro ks j x acc w hj h2 ha hx hxi
    have e:L.getD x (Ty.dflt ty4)=L.getD x false:=rfl
    show T31 Ops.std _ _ _ _ _ vs ps ts t.flat _ s1 s2 _ some _=_
    unfold T31
    simp only [qad,qag,qal,qaa,qab,hx,e,mt,List.length_cons,List.length_nil,show IntKind.wrap IntKind.i64 ((j:Int)+1)=((j+1:Nat):Int) from qaf (by omega)]
    rw [if_pos (by omega),if_pos (by omega),if_pos (by omega),if_pos (by omega)]
   have fin:∀ (ks:List Int) (acc:List Bool) (w:Nat),5*k<w→((opn q.1=0∧acc=[])∨(opn q.1=1∧acc=[L.getD (kd (t.kids 0) i 0) false])∨(opn q.1=2∧acc=[L.getD (kd (t.kids 0) i 0) false,L.getD (kd (t.kids 0) i 1) false]))→
     trP vs ps ts t.flat m s1 s2 (w+1) (.l2 (i:Int) (t.size:Nat) (i:Int) ks (ks.length:Nat) (ks.length:Nat) bits L acc (t.kids 0))=some (tvM vs ps ts t s1 s2 m):=by
    intro ks acc w hw' hacc
    have hb:Option.getD (mget (Ty.int IntKind.i64) bits (i:Int)) (Ty.dflt Ty.bool)=bitsOf (prL t.flat) m i:=hbits i
    have pvE:pv t.flat (t.kids 0) (bitsOf (prL t.flat) m) (valS vs ps ts s1 s2) i L=pvOp q.1 (valS vs ps ts s1 s2 q.2) (L.getD (kd (t.kids 0) i 0) false) (L.getD (kd (t.kids 0) i 1) false) (bitsOf (prL t.flat) m i):=by
     unfold pv;rw [hq]
    rw [pvE] at ih
    show T31 Ops.std _ _ _ _ _ vs ps ts t.flat _ s1 s2 _ some _=_
    unfold T31
    simp only [qad,qak,qag,qal,qaa,qab,hq,if_pos ci,hb,hw,mt,List.length_cons,List.length_nil]
    rw [if_neg (by omega)]
    by_cases h3:q.1=3
    ·obtain ⟨v,hv⟩:=eval_ok (ts:=ts) hg s1 s2 q.2 (wf_atm ht q hm h3)
     have e3:(!decide (v=0))=valS vs ps ts s1 s2 q.2:=by unfold valS;rw [hv];rfl
     rw [if_pos h3,evalP_eq ts hg s1 s2 q.2 (wf_atm ht q hm h3),hv,ob_s,e3,partT_ok q.1 q.2 acc _ _ _ _ hacc,ob_s,if_pos (by omega)]
     exact ih w hw'
    ·rw [if_neg h3,partT_ok q.1 q.2 acc _ _ _ _ hacc,ob_s,if_pos (by omega),pvOp_ne3 h3 false (valS vs ps ts s1 s2 q.2)]
     exact ih w hw'
   rcases nodeK_of ht i (by omega) with ⟨k1,k2⟩ | ⟨k1,x,hx,k2⟩ | ⟨k1,x,y,hx,hy,k2⟩
   ·rw [hq] at k1
    exact (e0 [] k2).trans (fin [] [] (n+2) (by omega) (.inl ⟨k1,rfl⟩))
   ·rw [hq] at k1
    have hkd:kd (t.kids 0) i 0=x:=by unfold kd;rw [k2];simp
    have i0:=inn [(x:Int)] 0 x [] (n+2) (by simp) (by simp) rfl (fun d=>rfl) hx
    refine (e0 _ k2).trans (i0.trans (fin [(x:Int)] [L.getD x false] (n+1) (by omega) (.inr (.inl ⟨k1,by rw [hkd]⟩))))
   ·rw [hq] at k1
    have hkd:kd (t.kids 0) i 0=x:=by unfold kd;rw [k2];simp
    have hkd1:kd (t.kids 0) i 1=y:=by unfold kd;rw [k2];simp
    have i0:=inn [(x:Int),(y:Int)] 0 x [] (n+2) (by simp) (by simp) rfl (fun d=>rfl) hx
    have i1:=inn [(x:Int),(y:Int)] 1 y [L.getD x false] (n+1) (by simp) (by simp) rfl (fun d=>rfl) hy
    exact (e0 _ k2).trans (i0.trans (i1.trans (fin [(x:Int),(y:Int)] [L.getD x false,L.getD y false] n (by omega) (.inr (.inr ⟨k1,by rw [hkd,hkd1]⟩)))))
theorem trP_l0 (hg:smallG vs ps) {t:Fm Trm} (ht:WF t) (h60:t.size≤60) (hp:(prL t.flat).length≤6) (s1 s2:List Int) (m:Nat) (hm:m<64) :
  ∀ (k i n:Nat) (bits:List (Int×Bool)),i+k=(prL t.flat).length→k+400<n→(∀ x,mgI bits x=bitG m ((prL t.flat).take i) 0 x)→trP vs ps ts t.flat m s1 s2 n (.l0 ((prL t.flat).length:Nat) i bits (prL t.flat))=some (tvM vs ps ts t s1 s2 m)
 | k,i,0,bits,hi,hn,hb=>by omega
 | 0,i,n+1,bits,hi,hn,hb=>by
   have hkl:=t.kids_len 0
   show T31 Ops.std _ _ _ _ _ vs ps ts t.flat _ s1 s2 _ some _=_
   unfold T31
   simp only [qad,qaa]
   rw [if_neg (by omega),qbw rightE ht h60 (qc2 ht h60),ob_s,hkl]
   exact trP_l1 hg ht h60 s1 s2 m bits (fun x=>by rw [hb x,List.take_of_length_le (by omega)]) t.size 0 n (by omega) (by omega)
 | k+1,i,n+1,bits,hi,hn,hb=>by
   have sb:=(shr_bit m hm i (by omega)).2
   have hs:(prL t.flat).Pairwise (·<·):=qdq t.flat t.flat.length 0
   have ih:=trP_l0 hg ht h60 hp s1 s2 m hm k (i+1) n (mput (Ty.int IntKind.i64) bits ((prL t.flat).getD i (Ty.dflt ty3)) (tb m i)) (by omega) (by omega) (fun x=>by
    have e:(prL t.flat).take (i+1)=(prL t.flat).take i++[(prL t.flat).getD i 0]:=by
     rw [List.take_succ_eq_append_getElem (by omega),List.getD_eq_getElem?_getD,List.getElem?_eq_getElem (by omega)];rfl
    rw [mgI_put,e,bitG_app m _ 0 _ x (sorted_fresh hs i (by omega)),hb x,List.length_take]
    rw [show 0+min i (prL t.flat).length=i by omega]
    rfl)
   show T31 Ops.std _ _ _ _ _ vs ps ts t.flat _ s1 s2 _ some _=_
   unfold T31
   simp only [qad,qag,qaa,cond_false,qab,sb,show IntKind.wrap IntKind.i64 ((i:Int)+1)=((i+1:Nat):Int) from qaf (by omega)]
   rw [if_pos (by omega),if_pos (by omega),if_neg (by omega)]
   exact ih
theorem TruthP_ok (hg:smallG vs ps) {t:Fm Trm} (ht:WF t) (hi:isT t=true) (h60:t.size≤60) (hp:(prL t.flat).length≤6) (hk:knA vs ps ts t.flat=true) (s1 s2:List Int) (m:Nat) (hm:m<2 ^ (prL t.flat).length):M31 vs ps ts t.flat (m:Int) s1 s2=some (tvM vs ps ts t s1 s2 m):=by
 have hfl:=t.flat_len
 have h64:=qa7 hp
 have ho:=shr_over (prL t.flat).length hp m (by omega)
 show T31 Ops.std M26 M67 M52 M68 M69 vs ps ts t.flat (m:Int) s1 s2 (trP vs ps ts t.flat m s1 s2 1000000) some none=_
 unfold T31
 rw [prP_T ht hi h60 hp,ob_s,qfx ts hg t.flat (by omega) (wf_atm ht) (qc2 ht h60),ob_s,hk]
 simp only [qak,qad,qao,qaa,cond_false,Bool.not_true]
 rw [if_neg (by simp),if_neg (by omega),if_neg (by omega),if_neg (by have:=of_decide_eq_false (ho.trans (decide_eq_false (show ¬ 2 ^ (prL t.flat).length≤m by omega)));exact this)]
 exact trP_l0 hg ht h60 hp s1 s2 m (by omega) (prL t.flat).length 0 1000000 [] (by omega) (by omega) (fun x=>by simp [mgI,mget,bitG,Ty.dflt])
def mkF (q:Nat→Bool):Nat→Nat→List Int
 | _,0=>[]
 | i,t+1=>if q i then (i:Int)::mkF q (i+1) t else mkF q (i+1) t
theorem mkF_le (q:Nat→Bool):∀ t i,(mkF q i t).length≤t
 | 0,i=>by simp [mkF]
 | t+1,i=>by
   have:=mkF_le q t (i+1)
   simp only [mkF]
   split<;>simp<;>omega
noncomputable def hasM (vs:List Vrb) (ps:List Pcs) (ts:List Trn) (t:Fm Trm) (s1 s2:List Int) (m:Nat):Bool:=(tvM vs ps ts t s1 s2 m).getD (t.size-1) false
noncomputable def masksL (vs:List Vrb) (ps:List Pcs) (ts:List Trn) (t:Fm Trm) (s1 s2:List Int):List Int:=mkF (hasM vs ps ts t s1 s2) 0 (2 ^ (prL t.flat).length)
noncomputable abbrev mkP (vs:List Vrb) (ps:List Pcs) (ts:List Trn) (f:List Prt) (s1 s2:List Int):=R35 M26 M31 vs ps ts f s1 s2
theorem mkP_loop (hg:smallG vs ps) {t:Fm Trm} (ht:WF t) (hi:isT t=true) (h60:t.size≤60) (hp:(prL t.flat).length≤6) (hk:knA vs ps ts t.flat=true) (s1 s2:List Int):∀ (k i n:Nat) (out:List Int),i+k=2 ^ (prL t.flat).length→k<n→out.length≤i→
  mkP vs ps ts t.flat s1 s2 n (.l0 ((2 ^ (prL t.flat).length:Nat):Int) i out)=some (out++mkF (hasM vs ps ts t s1 s2) i k)
 | k,i,0,out,hi',hn,ho=>by omega
 | 0,i,n+1,out,hi',hn,ho=>by
   show T35 Ops.std _ _ vs ps ts t.flat s1 s2 _ some _=_
   unfold T35
   simp only [qad,qaa]
   rw [if_neg (by omega)]
   simp [mkF]
 | k+1,i,n+1,out,hi',hn,ho=>by
   have h64:=qa7 hp
   have hs:=t.size_pos
   have ih:=fun out ho=>mkP_loop hg ht hi h60 hp hk s1 s2 k (i+1) n out (by omega) (by omega) ho
   have hl:=qe5 (vs:=vs) (ps:=ps) ts t s1 s2 i
   have hw:IntKind.wrap IntKind.i64 ((t.size:Int)-1)=((t.size-1:Nat):Int):=by rw [wrap64 (by omega) (by omega)];omega
   have hh:(tvM vs ps ts t s1 s2 i).getD (t.size-1) (Ty.dflt ty4)=hasM vs ps ts t s1 s2 i:=rfl
   show T35 Ops.std _ _ vs ps ts t.flat s1 s2 _ some _=_
   unfold T35
   simp only [qad,qag,qal,qaa,qab,TruthP_ok hg ht hi h60 hp hk s1 s2 i (by omega),ob_s,hl,hw,hh,mt,List.length_cons,List.length_nil,show IntKind.wrap IntKind.i64 ((i:Int)+1)=((i+1:Nat):Int) from qaf (by omega)]
   rw [if_pos (by omega),if_pos (by omega),if_pos (by omega),mkF]
   cases hq:hasM vs ps ts t s1 s2 i with
   | true=>
     simp only [cond_true,if_true]
     rw [if_pos (by omega)]
     exact (ih _ (by simp;omega)).trans (by simp)
   | false=>
     simp only [cond_false,Bool.false_eq_true,if_false]
     exact ih _ (by omega)
theorem MasksP_ok (hg:smallG vs ps) {t:Fm Trm} (ht:WF t) (hi:isT t=true) (h60:t.size≤60) (hp:(prL t.flat).length≤6) (hk:knA vs ps ts t.flat=true) (s1 s2:List Int):M35 vs ps ts t.flat s1 s2=some (masksL vs ps ts t s1 s2):=by
 have h64:=qa7 hp
 show T35 Ops.std M26 M31 vs ps ts t.flat s1 s2 (mkP vs ps ts t.flat s1 s2 1000000) some none=_
 unfold T35
 rw [prP_T ht hi h60 hp,ob_s]
 simp only [qak,qad,qao,qaa,cond_true]
 rw [if_neg (by simp),if_neg (by omega),shl_one _ hp]
 exact (mkP_loop hg ht hi h60 hp hk s1 s2 (2 ^ (prL t.flat).length) 0 1000000 [] (by omega) (by omega) (by simp)).trans rfl
end
theorem known17:M24=some true:=by kernel_rfl
def vline (i:Nat) (c:Nat×Nat×Nat):List UInt8:=[118,97,114,32]++([[120],[121],[122]]:List (List UInt8)).getD i []++[32]++([[48],[45,49]]:List (List UInt8)).getD c.1 []++[32]++([[49],[50],[51]]:List (List UInt8)).getD c.2.1 []++[32]++([[48],[49]]:List (List UInt8)).getD c.2.2 []
def pline (i:Nat) (d:Bool):List UInt8:=[112,114,111,99,32]++([[112],[113],[114]]:List (List UInt8)).getD i []++[32,97,32,98,32,99]++(if d then [32,100] else [])
def vlines:Nat→List (Nat×Nat×Nat)→List UInt8
 | _,[]=>[]
 | i,c::cs=>vline i c++([10]++vlines (i+1) cs)
def plines:Nat→List Bool→List UInt8
 | _,[]=>[]
 | i,d::ds=>pline i d++([10]++plines (i+1) ds)
def okC3 (cs:List (Nat×Nat×Nat)):Prop:=∀ c∈cs,c.1<2∧c.2.1<3∧c.2.2<2
section
variable (p0 p1:Int) (p2:List (List Int))
theorem raw_l2 (N:Nat) (h0N:0<N) (h3N:N≤3):∀ (t i n:Nat) (s:List UInt8),i+t=10→t<n→s.length≤500+420*i→∃ r,txR p0 p1 p2 n (.l2 s (N:Nat) i)=some (s++r)∧(s++r).length≤5000
 | t,i,0,s,hi,hn,hs=>by omega
 | 0,i,n+1,s,hi,hn,hs=>by
   show ∃ r,T48 Ops.std _ _ _ p0 p1 p2 _ some _=some (s++r)∧_
   unfold T48
   simp only [qad,qaa]
   by_cases h:(i:Int)<(p2.length:Int)
   ·rw [if_pos h,if_neg (by omega)];exact ⟨[],by rw [List.append_nil],by rw [List.append_nil];omega⟩
   ·rw [if_neg h];exact ⟨[],by rw [List.append_nil],by rw [List.append_nil];omega⟩
 | t+1,i,n+1,s,hi,hn,hs=>by
   have ih:=raw_l2 N h0N h3N t (i+1) n
   show ∃ r,T48 Ops.std _ _ _ p0 p1 p2 _ some _=some (s++r)∧_
   unfold T48
   have hw:IntKind.wrap IntKind.i64 (IntKind.wrap IntKind.i64 (3*(i:Int))+1)=((3*i+1:Nat):Int):=by rw [wrap64 (n:=3*(i:Int)) (by omega) (by omega),wrap64 (by omega) (by omega)];omega
   simp only [qad,qag,qal,qaa,qab,hw]
   by_cases h:(i:Int)<(p2.length:Int)
   ·rw [if_pos h,if_pos (by omega),if_pos (by omega),if_pos (by omega)]
    obtain ⟨w,h1,h2⟩:=Decimal_ok (3*i+1) (by omega)
    obtain ⟨u,h3,h4⟩:=Trans_okM (p2.getD i (Ty.dflt ty22)) N (N:Nat) rfl h0N h3N
    rw [h1,ob_s]
    simp only [List.length_append,List.length_cons,List.length_nil]
    rw [if_pos (by omega),if_pos (by omega),h3,ob_s,if_pos (by omega),if_pos (by omega),show IntKind.wrap IntKind.i64 ((i:Int)+1)=((i+1:Nat):Int) from qaf (by omega)]
    obtain ⟨r,r1,r2⟩:=ih (s++[116,114,97,110,115,32]++w++[32]++u++[10]) (by omega) (by omega) (by simp;omega)
    refine ⟨[116,114,97,110,115,32]++w++[32]++u++[10]++r,?_,?_⟩
    ·simp only [List.append_assoc] at r1 ⊢;exact r1
    ·simp only [List.append_assoc,List.length_append] at r2 ⊢;omega
   ·rw [if_neg h];exact ⟨[],by rw [List.append_nil],by rw [List.append_nil];omega⟩
theorem raw_l1 (N:Nat) (h0N:0<N) (h3N:N≤3):∀ (t i n:Nat) (s:List UInt8),i+t=N→t+20<n→s.length≤200+30*i→∃ (ds:List Bool) (r:List UInt8),ds.length=t∧txR p0 p1 p2 n (.l1 s (N:Nat) i)=some (s++(plines i ds++r))∧(s++(plines i ds++r)).length≤5000
 | t,i,0,s,hi,hn,hs=>by omega
 | 0,i,n+1,s,hi,hn,hs=>by
   show ∃ (ds:List Bool) (r:List UInt8),ds.length=0∧T48 Ops.std _ _ _ p0 p1 p2 _ some _=some (s++(plines i ds++r))∧_
   unfold T48
   simp only [qad,qaa]
   rw [if_neg (by omega)]
   obtain ⟨r,r1,r2⟩:=raw_l2 p0 p1 p2 N h0N h3N 10 0 n s (by omega) (by omega) (by omega)
   exact ⟨[],r,rfl,r1,r2⟩
 | t+1,i,n+1,s,hi,hn,hs=>by
   have ih:=raw_l1 N h0N h3N t (i+1) n
   show ∃ (ds:List Bool) (r:List UInt8),ds.length=t+1∧T48 Ops.std _ _ _ p0 p1 p2 _ some _=some (s++(plines i ds++r))∧_
   unfold T48
   have hw:IntKind.wrap IntKind.i64 (2+(i:Int))=((i+2:Nat):Int):=by rw [wrap64 (by omega) (by omega)];omega
   simp only [qad,qag,qal,qak,qaa,hw,mt]
   obtain ⟨k,hk,h1⟩:=pickN (IntKind.wrap IntKind.i64 (Int.tdiv p0 ((i+2:Nat):Int))) 3 (by omega) (by omega)
   have h1':M29 (IntKind.wrap IntKind.i64 (Int.tdiv p0 ((i+2:Nat):Int))) 3=some (k:Int):=h1
   have hl:=qar (n:=1) (l:=[[112],[113],[114]]) rfl (Int.toNat (i:Int))
   generalize hx:([[112],[113],[114]]:List (List UInt8)).getD (Int.toNat (i:Int)) []=x at hl ⊢
   simp only [List.length_append,List.length_cons,List.length_nil]
   rw [if_pos (by omega),if_pos (by omega),if_pos (by omega),if_pos (by omega),if_pos (by omega),if_neg (by omega),h1',ob_s,show IntKind.wrap IntKind.i64 ((i:Int)+1)=((i+1:Nat):Int) from qaf (by omega)]
   by_cases hk0:(k:Int)=0
   ·rw [if_pos hk0,if_pos (by omega),if_pos (by omega)]
    obtain ⟨ds,r,d1,r1,r2⟩:=ih (s++[112,114,111,99,32]++x++[32,97,32,98,32,99]++[32,100]++[10]) (by omega) (by omega) (by simp;omega)
    have hp:s++(plines i (true::ds)++r)=s++[112,114,111,99,32]++x++[32,97,32,98,32,99]++[32,100]++[10]++(plines (i+1) ds++r):=by simp only [plines,pline,←hx,Int.toNat_natCast];simp
    refine ⟨true::ds,r,by simp [d1],?_,?_⟩
    ·rw [hp];exact r1
    ·rw [←hp] at r2;simp only [List.length_append] at r2 ⊢;omega
   ·rw [if_neg hk0,if_pos (by omega)]
    obtain ⟨ds,r,d1,r1,r2⟩:=ih (s++[112,114,111,99,32]++x++[32,97,32,98,32,99]++[10]) (by omega) (by omega) (by simp;omega)
    have hp:s++(plines i (false::ds)++r)=s++[112,114,111,99,32]++x++[32,97,32,98,32,99]++[10]++(plines (i+1) ds++r):=by simp only [plines,pline,←hx,Int.toNat_natCast];simp
    refine ⟨false::ds,r,by simp [d1],?_,?_⟩
    ·rw [hp];exact r1
    ·rw [←hp] at r2;simp only [List.length_append] at r2 ⊢;omega
theorem raw_l0 (V:Nat) (hV:V≤3) (h0V:2≤V) (hp:IntKind.wrap IntKind.i64 (2+(((V-2:Nat):Nat):Int))=(V:Int)) (hy:M29 p1 2=some ((V-2:Nat):Int)):∀ (t i n:Nat) (s:List UInt8),i+t=V→t+60<n→s.length≤30*i→∃ (cs:List (Nat×Nat×Nat)) (ds:List Bool) (r:List UInt8),cs.length=t∧okC3 cs∧2≤ds.length∧ds.length≤3∧txR p0 p1 p2 n (.l0 s i)=some (s++(vlines i cs++(plines 0 ds++r)))∧(s++(vlines i cs++(plines 0 ds++r))).length≤5000
 | t,i,0,s,hi,hn,hs=>by omega
 | 0,i,n+1,s,hi,hn,hs=>by
   show ∃ (cs:List (Nat×Nat×Nat)) (ds:List Bool) (r:List UInt8),cs.length=0∧okC3 cs∧2≤ds.length∧ds.length≤3∧T48 Ops.std _ _ _ p0 p1 p2 _ some _=some (s++(vlines i cs++(plines 0 ds++r)))∧_
   unfold T48
   rw [hy]
   simp only [qad,qak,qaa,ob_s,hp]
   obtain ⟨k,hk,h1⟩:=pickN p0 4 (by omega) (by omega)
   have h1':M29 p0 4=some (k:Int):=h1
   rw [if_neg (by omega),h1',ob_s,if_neg (by decide)]
   have hq:Int.tdiv (k:Int) 3=((k / 3:Nat):Int):=by simp [Int.tdiv_eq_ediv_of_nonneg]
   rw [hq,wrap64 (n:=((k / 3:Nat):Int)) (by omega) (by omega),show IntKind.wrap IntKind.i64 (2+((k / 3:Nat):Int))=((k / 3+2:Nat):Int) by rw [wrap64 (by omega) (by omega)];omega]
   obtain ⟨ds,r,d1,r1,r2⟩:=raw_l1 p0 p1 p2 (k / 3+2) (by omega) (by omega) (k / 3+2) 0 n s (by omega) (by omega) (by omega)
   exact ⟨[],ds,r,rfl,(fun c hc=>by cases hc),by omega,by omega,r1,r2⟩
 | t+1,i,n+1,s,hi,hn,hs=>by
   have ih:=raw_l0 V hV h0V hp hy t (i+1) n
   show ∃ (cs:List (Nat×Nat×Nat)) (ds:List Bool) (r:List UInt8),cs.length=t+1∧okC3 cs∧2≤ds.length∧ds.length≤3∧T48 Ops.std _ _ _ p0 p1 p2 _ some _=some (s++(vlines i cs++(plines 0 ds++r)))∧_
   unfold T48
   rw [hy]
   have hw2:IntKind.wrap IntKind.i64 (2+(i:Int))=((i+2:Nat):Int):=by rw [wrap64 (by omega) (by omega)];omega
   have hw5:IntKind.wrap IntKind.i64 (5+(i:Int))=((i+5:Nat):Int):=by rw [wrap64 (by omega) (by omega)];omega
   simp only [qad,qag,qal,qak,qaa,ob_s,hp,hw2,hw5,mt]
   obtain ⟨k1,hk1,e1⟩:=pickN (IntKind.wrap IntKind.i64 (Int.tdiv p1 7)) 2 (by omega) (by omega)
   obtain ⟨k2,hk2,e2⟩:=pickN (IntKind.wrap IntKind.i64 (Int.tdiv p1 ((i+2:Nat):Int))) 3 (by omega) (by omega)
   obtain ⟨k3,hk3,e3⟩:=pickN (IntKind.wrap IntKind.i64 (Int.tdiv p1 ((i+5:Nat):Int))) 2 (by omega) (by omega)
   have e1':M29 (IntKind.wrap IntKind.i64 (Int.tdiv p1 7)) 2=some (k1:Int):=e1
   have e2':M29 (IntKind.wrap IntKind.i64 (Int.tdiv p1 ((i+2:Nat):Int))) 3=some (k2:Int):=e2
   have e3':M29 (IntKind.wrap IntKind.i64 (Int.tdiv p1 ((i+5:Nat):Int))) 2=some (k3:Int):=e3
   have hl:=qar (n:=1) (l:=[[120],[121],[122]]) rfl (Int.toNat (i:Int))
   generalize hx:([[120],[121],[122]]:List (List UInt8)).getD (Int.toNat (i:Int)) []=x at hl ⊢
   simp only [List.length_append,List.length_cons,List.length_nil]
   rw [if_pos (by omega),if_pos (by omega),if_pos (by omega),if_pos (by omega),if_pos (by omega),if_neg (by omega),if_neg (by omega),if_neg (by omega),e1',ob_s,if_pos (by omega)]
   have hl1:=qar (n:=2) (l:=[[48],[45,49]]) rfl (Int.toNat (k1:Int))
   generalize hx1:([[48],[45,49]]:List (List UInt8)).getD (Int.toNat (k1:Int)) []=x1 at hl1 ⊢
   rw [if_pos (by omega),if_pos (by omega),e2',ob_s,if_pos (by omega)]
   have hl2:=qar (n:=1) (l:=[[49],[50],[51]]) rfl (Int.toNat (k2:Int))
   generalize hx2:([[49],[50],[51]]:List (List UInt8)).getD (Int.toNat (k2:Int)) []=x2 at hl2 ⊢
   rw [if_pos (by omega),if_pos (by omega),e3',ob_s,if_pos (by omega)]
   have hl3:=qar (n:=1) (l:=[[48],[49]]) rfl (Int.toNat (k3:Int))
   generalize hx3:([[48],[49]]:List (List UInt8)).getD (Int.toNat (k3:Int)) []=x3 at hl3 ⊢
   rw [if_pos (by omega),if_pos (by omega),show IntKind.wrap IntKind.i64 ((i:Int)+1)=((i+1:Nat):Int) from qaf (by omega)]
   obtain ⟨cs,ds,r,d1,d2,d3,d4,r1,r2⟩:=ih (s++[118,97,114,32]++x++[32]++x1++[32]++x2++[32]++x3++[10]) (by omega) (by omega) (by simp;omega)
   have hp:s++(vlines i ((k1,k2,k3)::cs)++(plines 0 ds++r))=s++[118,97,114,32]++x++[32]++x1++[32]++x2++[32]++x3++[10]++(vlines (i+1) cs++(plines 0 ds++r)):=by simp only [vlines,vline,←hx,←hx1,←hx2,←hx3,Int.toNat_natCast];simp
   refine ⟨(k1,k2,k3)::cs,ds,r,by simp [d1],?_,d3,d4,?_,?_⟩
   ·intro c hc
    rcases List.mem_cons.1 hc with h | h
    ·rw [h];exact ⟨hk1,hk2,hk3⟩
    ·exact d2 c h
   ·rw [hp];exact r1
   ·rw [←hp] at r2;simp only [List.length_append] at r2 ⊢;omega
theorem Text_raw:∃ (cs:List (Nat×Nat×Nat)) (ds:List Bool) (r:List UInt8),2≤cs.length∧cs.length≤3∧okC3 cs∧2≤ds.length∧ds.length≤3∧M48 p0 p1 p2=some (vlines 0 cs++(plines 0 ds++r))∧(vlines 0 cs++(plines 0 ds++r)).length≤5000:=by
 obtain ⟨k,hk,h1⟩:=pickN p1 2 (by omega) (by omega)
 have h1':M29 p1 2=some (((k+2)-2:Nat):Int):=h1
 obtain ⟨cs,ds,r,d1,d2,d3,d4,r1,r2⟩:=raw_l0 p0 p1 p2 (k+2) (by omega) (by omega) (by rw [wrap64 (by omega) (by omega)];omega) h1' (k+2) 0 1000000 [] (by omega) (by omega) (by simp)
 refine ⟨cs,ds,r,by omega,by omega,d2,d3,d4,?_,r2⟩
 show T48 Ops.std M29 M91 M92 p0 p1 p2 (txR p0 p1 p2 1000000) some none=some _
 unfold T48
 exact r1
end
def cutW (c:Int):List UInt8→List UInt8→List (List UInt8)
 | pre,[]=>[pre]
 | pre,b::r=>if (b.toNat:Int)=c then pre::cutW c [] r else cutW c (pre++[b]) r
theorem cut_eqL (s:List UInt8) (hs:s.length≤60000) (c:Int):∀ (t i n fr:Nat) (out:List (List UInt8)),i+t=s.length→t<n→fr≤i→out.length≤i→cutR s c n (.l0 fr i out)=some (out++cutW c ((s.take i).drop fr) (s.drop i))
 | t,i,0,fr,out,hi,hn,hf,ho=>by omega
 | 0,i,n+1,fr,out,hi,hn,hf,ho=>by
   show T86 Ops.std s c _ some _=some _
   unfold T86
   simp only [qad,qag,qal,qaa,qab,mt,List.length_cons,List.length_nil]
   rw [if_neg (by omega),if_pos (by omega),if_pos (by omega),List.drop_eq_nil_of_le (show s.length≤i by omega),show i=s.length by omega]
   rfl
 | t+1,i,n+1,fr,out,hi,hn,hf,ho=>by
   have ih:=cut_eqL s hs c t (i+1) n
   show T86 Ops.std s c _ some _=some _
   unfold T86
   have hw:IntKind.wrap IntKind.i64 ((i:Int)+1)=((i+1:Nat):Int):=qaf (by omega)
   have h1:(0:Int)≤(fr:Int):=by omega
   have h2:(fr:Int)≤(i:Int):=by omega
   have hd:s.drop i=s.getD i 0::s.drop (i+1):=qcw (by omega)
   have htk:s.take (i+1)=s.take i++[s.getD i 0]:=by
    rw [List.take_succ_eq_append_getElem (by omega)]
    simp [List.getD_eq_getElem?_getD,List.getElem?_eq_getElem (show i<s.length by omega)]
   simp only [qad,qag,qal,qas,qak,qaa,qab,mt,List.length_cons,List.length_nil,hw,h1,h2,decide_true,cond_true,if_true]
   rw [if_pos (by omega),if_pos (by omega),hd]
   simp only [cutW]
   by_cases hb:((s.getD i 0).toNat:Int)=c
   ·rw [if_pos hb,if_pos hb,if_pos (by omega),if_pos (by omega)]
    refine Eq.trans (ih (i+1) _ (by omega) (by omega) (by omega) (by simp;omega)) ?_
    rw [List.drop_eq_nil_of_le (show (s.take (i+1)).length≤i+1 by rw [List.length_take];omega)]
    simp
   ·rw [if_neg hb,if_neg hb]
    refine Eq.trans (ih fr out (by omega) (by omega) (by omega) (by omega)) ?_
    rw [htk,List.drop_append_of_le_length (by simp;omega)]
theorem cut_eq (s:List UInt8) (hs:s.length≤60000) (c:Int):M86 s c=some (cutW c [] s):=by
 show T86 Ops.std s c (cutR s c 1000000) some none=some _
 unfold T86
 have:=cut_eqL s hs c s.length 0 1000000 0 [] (by omega) (by omega) (by omega) (by simp)
 simpa using this
theorem qe7 (c:Int):∀ (l r pre:List UInt8) (b:UInt8),(∀ x∈l,(x.toNat:Int)≠c)→(b.toNat:Int)=c→cutW c pre (l++b::r)=(pre++l)::cutW c [] r
 | [],r,pre,b,_,hb=>by simp [cutW,hb]
 | x::l,r,pre,b,hl,hb=>by
   rw [List.cons_append]
   simp only [cutW]
   rw [if_neg (hl x (List.mem_cons_self ..)),qe7 c l r (pre++[x]) b (fun y hy=>hl y (List.mem_cons_of_mem _ hy)) hb]
   simp
def noNl (l:List UInt8):Bool:=l.all fun x=>!decide ((x.toNat:Int)=10)
theorem vline_nl:∀ i,i<3→∀ a,a<2→∀ b,b<3→∀ c,c<2→noNl (vline i (a,b,c))=true:=by decide
theorem pline_nl:∀ i,i<3→∀ d:Bool,noNl (pline i d)=true:=by decide
theorem noNl.ne {l:List UInt8} (h:noNl l=true):∀ x∈l,(x.toNat:Int)≠10:=fun x hx=>by
 have:=List.all_eq_true.1 h x hx
 simpa using this
def vls:Nat→List (Nat×Nat×Nat)→List (List UInt8)
 | _,[]=>[]
 | i,c::cs=>vline i c::vls (i+1) cs
def pls:Nat→List Bool→List (List UInt8)
 | _,[]=>[]
 | i,d::ds=>pline i d::pls (i+1) ds
theorem cut_pls (r:List UInt8):∀ (ds:List Bool) (i:Nat),i+ds.length≤3→cutW 10 [] (plines i ds++r)=pls i ds++cutW 10 [] r
 | [],i,_=>rfl
 | d::ds,i,h=>by
   simp only [List.length_cons] at h
   have:=qe7 10 (pline i d) (plines (i+1) ds++r) [] 10 (noNl.ne (pline_nl i (by omega) d)) rfl
   simp only [plines,pls,List.append_assoc,List.cons_append,List.nil_append] at this ⊢
   rw [this,cut_pls r ds (i+1) (by omega)]
theorem cut_vls (r:List UInt8):∀ (cs:List (Nat×Nat×Nat)) (i:Nat),okC3 cs→i+cs.length≤3→cutW 10 [] (vlines i cs++r)=vls i cs++cutW 10 [] r
 | [],i,_,_=>rfl
 | (a,b,c)::cs,i,hk,h=>by
   simp only [List.length_cons] at h
   obtain ⟨k1,k2,k3⟩:=hk _ (List.mem_cons_self ..)
   have:=qe7 10 (vline i (a,b,c)) (vlines (i+1) cs++r) [] 10 (noNl.ne (vline_nl i (by omega) a k1 b k2 c k3)) rfl
   simp only [vlines,vls,List.append_assoc,List.cons_append,List.nil_append] at this ⊢
   rw [this,cut_vls r cs (i+1) (fun x hx=>hk x (List.mem_cons_of_mem _ hx)) (by omega)]
end Go.Proofs.YtccnmhdgghjgoaaGreatDoor.Av
