/- The plain law of RewriteMeans: what its twin computes answers true. Conditions: none. -/
import Derived.Test.YtccnmhdgghjgoaaGreatDoorPRewriteMeansa
set_option linter.unusedSimpArgs false
set_option linter.unusedVariables false
set_option maxRecDepth 100000
namespace Go.Proofs.YtccnmhdgghjgoaaGreatDoor.Av
open Go
theorem qfr {l:List (List UInt8)} {n:Nat} (h:∀ y∈l,y.length≤n) (k:Nat):(l.getD k []).length≤n:=by
 rw [List.getD_eq_getElem?_getD]
 cases hk:l[k]? with
 | none=>simp
 | some x=>exact h x (List.mem_of_getElem? hk)
def eB:Nat→Nat
 | 0=>10
 | h+1=>2*eB h+10
theorem eB_le:∀ h,h≤4→eB h≤310∧fA h≤93:=by
 intro h hh
 match h with
 | 0 | 1 | 2 | 3 | 4=>decide
noncomputable abbrev nxt:=M94
theorem qbb (l:List Int) (a:Nat) (ha:a≤1000) (n:Nat) (m:Int) (hm:m=(n:Nat)) (h0:0<n) (h1:n<1000):∃ (k a':Nat),k<n∧a≤a'∧a'≤a+1∧M94 m l (a:Nat)=some ((k:Int),l,(a':Int)):=by
 subst hm
 exact qdd l 0 a ha n h0 h1
theorem expr_k (l:List Int) (deep:Int) (d:Nat) (l0:List Int) (a0:Int) (B A:Nat) (hB:B≤310) (hA:A≤93) (k:Nat) (hk:k<20) (V:Nat) (hV:V≤900) (hrec:k<14→∀ a:Nat,a≤V→FOk l (Rec153 d (IntKind.wrap IntKind.i64 (deep+1)) l a) a B A) (a:Nat) (ha:a+A+5≤V) (n:Nat) :
  FOk l (R153 M94 (Rec153 d) deep l0 a0 (n+1) (.l1004 k l a)) a (2*B+10) (2*A+2):=by
 show FOk l (T153 Ops.std M94 (Rec153 d) deep l0 a0 _ some _) a _ _
 unfold T153
 simp only [qam,qas,qaq,qau,qab,mt]
 by_cases h10:(k:Int)<10
 ·obtain ⟨s,a1,e1,e2,e3,e4⟩:=hrec (by omega) a (by omega)
  obtain ⟨s2,a2,f1,f2,f3,f4⟩:=hrec (by omega) a1 (by omega)
  rw [if_pos h10,e1,ob_s]
  dsimp only
  rw [f1,ob_s]
  dsimp only
  obtain ⟨j,a3,g1,g2,g3,g4⟩:=qbb l a2 (by omega) 11 11 rfl (by omega) (by omega)
  rw [g4,ob_s]
  dsimp only
  rw [if_pos (by omega)]
  obtain ⟨i,a4,i1,i2,i3,i4⟩:=qbb l a3 (by omega) 2 2 rfl (by omega) (by omega)
  rw [i4,ob_s]
  dsimp only
  have hlen:=qa0 (n:=2) (l:=[[43],[45],[42],[60],[60,61],[61,61],[33,61],[38,38],[124,124],[62],[62,61]]) rfl (Int.toNat (j:Int))
  generalize ([[43],[45],[42],[60],[60,61],[61,61],[33,61],[38,38],[124,124],[62],[62,61]]:List (List UInt8)).getD (Int.toNat (j:Int)) []=x at hlen ⊢
  simp only [List.length_append,List.length_cons,List.length_nil]
  by_cases hi:(i:Int)=0
  ·rw [if_pos hi,if_pos (by omega),if_pos (by omega),if_pos (by omega),if_pos (by omega),if_pos (by omega),if_pos (by omega)]
   exact ⟨_,a4,rfl,by simp;omega,by omega,by omega⟩
  ·rw [if_neg hi,if_pos (by omega),if_pos (by omega),if_pos (by omega),if_pos (by omega),if_pos (by omega),if_pos (by omega)]
   exact ⟨_,a4,rfl,by simp;omega,by omega,by omega⟩
 ·rw [if_neg h10]
  by_cases h:(k:Int)=10
  ·obtain ⟨s,a1,e1,e2,e3,e4⟩:=hrec (by omega) a (by omega)
   rw [if_pos h,e1,ob_s]
   dsimp only
   simp only [List.length_append,List.length_cons,List.length_nil]
   rw [if_pos (by omega),if_pos (by omega)]
   exact ⟨_,a1,rfl,by simp;omega,by omega,by omega⟩
  ·rw [if_neg h]
   clear h
   by_cases h:(k:Int)=11
   ·obtain ⟨s,a1,e1,e2,e3,e4⟩:=hrec (by omega) a (by omega)
    rw [if_pos h,e1,ob_s]
    dsimp only
    simp only [List.length_append,List.length_cons,List.length_nil]
    rw [if_pos (by omega),if_pos (by omega)]
    exact ⟨_,a1,rfl,by simp;omega,by omega,by omega⟩
   ·rw [if_neg h]
    clear h
    by_cases h:(k:Int)=12
    ·obtain ⟨s,a1,e1,e2,e3,e4⟩:=hrec (by omega) a (by omega)
     obtain ⟨s2,a2,f1,f2,f3,f4⟩:=hrec (by omega) a1 (by omega)
     rw [if_pos h,e1,ob_s]
     dsimp only
     rw [if_pos (by omega),f1,ob_s]
     dsimp only
     simp only [List.length_append,List.length_cons,List.length_nil]
     rw [if_pos (by omega)]
     exact ⟨_,a2,rfl,by simp;omega,by omega,by omega⟩
    ·rw [if_neg h]
     clear h
     by_cases h:(k:Int)=13
     ·obtain ⟨s,a1,e1,e2,e3,e4⟩:=hrec (by omega) a (by omega)
      rw [if_pos h,e1,ob_s]
      dsimp only
      rw [if_pos (by omega)]
      exact ⟨_,a1,rfl,by simp;omega,by omega,by omega⟩
     ·rw [if_neg h]
      clear h hrec
      have hnum:FOk l (ob (M94 4 l a) fun y0=>if (0:Int)≤Prod.fst y0∧Prod.fst y0<(4:Int) then some (([[48],[49],[50],[48,48,55]]:List (List UInt8)).getD (Int.toNat (Prod.fst y0)) [],Prod.fst (Prod.snd y0),Prod.snd (Prod.snd y0)) else none) a (2*B+10) (2*A+2):=by
       obtain ⟨j,a3,g1,g2,g3,g4⟩:=qbb l a (by omega) 4 4 rfl (by omega) (by omega)
       rw [g4,ob_s]
       dsimp only
       rw [if_pos (by omega)]
       have hlen:=qa0 (n:=3) (l:=[[48],[49],[50],[48,48,55]]) rfl (Int.toNat (j:Int))
       exact ⟨_,a3,rfl,by omega,by omega,by omega⟩
      by_cases h:(k:Int)=14
      ·rw [if_pos h];exact hnum
      ·rw [if_neg h]
       clear h
       by_cases h:(k:Int)=15
       ·rw [if_pos h];exact hnum
       ·rw [if_neg h]
        clear h hnum
        by_cases h:(k:Int)=16
        ·rw [if_pos h]
         obtain ⟨j,a3,g1,g2,g3,g4⟩:=qbb l a (by omega) 2 2 rfl (by omega) (by omega)
         obtain ⟨i,a4,i1,i2,i3,i4⟩:=qbb l a3 (by omega) 3 3 rfl (by omega) (by omega)
         rw [g4,ob_s]
         dsimp only
         have hlen:=qa0 (n:=1) (l:=[[112],[113],[114]]) rfl (Int.toNat (j:Int))
         have hlen2:=qa0 (n:=1) (l:=[[97],[98],[99],[100]]) rfl (Int.toNat (i:Int))
         generalize ([[112],[113],[114]]:List (List UInt8)).getD (Int.toNat (j:Int)) []=x at hlen ⊢
         rw [if_pos (by omega),if_pos (by omega),i4,ob_s]
         dsimp only
         generalize ([[97],[98],[99],[100]]:List (List UInt8)).getD (Int.toNat (i:Int)) []=y at hlen2 ⊢
         simp only [List.length_append,List.length_cons,List.length_nil]
         rw [if_pos (by omega),if_pos (by omega)]
         exact ⟨_,a4,rfl,by simp;omega,by omega,by omega⟩
        ·rw [if_neg h]
         obtain ⟨j,a3,g1,g2,g3,g4⟩:=qbb l a (by omega) 2 2 rfl (by omega) (by omega)
         rw [g4,ob_s]
         dsimp only
         rw [if_pos (by omega)]
         have hlen:=qa0 (n:=1) (l:=[[120],[121],[122]]) rfl (Int.toNat (j:Int))
         exact ⟨_,a3,rfl,by omega,by omega,by omega⟩
theorem expr_h (l:List Int):∀ (h:Nat),h≤4→∀ (d:Nat),h<d→∀ (a:Nat),a≤800-150*h→FOk l (Rec153 d ((4-h:Nat):Int) l a) a (eB h) (fA h):=by
 intro h
 induction h with
 | zero=>
   intro hh d hd a ha
   obtain ⟨e,rfl⟩:∃ e,d=e+1:=⟨d-1,by omega⟩
   show FOk l (T153 Ops.std M94 (Rec153 e) ((4-0:Nat):Int) l a (R153 M94 (Rec153 e) ((4-0:Nat):Int) l a 1000000) some none) a _ _
   unfold T153
   obtain ⟨k,a1,e1,e2,e3,e4⟩:=qbb l a (by omega) 20 20 rfl (by omega) (by omega)
   rw [e4,ob_s]
   simp only [qam,qas,qab]
   rw [if_pos (by omega),if_neg (by omega)]
   have ht:Int.tmod (k:Int) 6=((k % 6:Nat):Int):=by rw [show (6:Int)=((6:Nat):Int) from rfl,←Int.ofNat_tmod]
   rw [ht,show IntKind.wrap IntKind.i64 (14+((k % 6:Nat):Int))=((14+k % 6:Nat):Int) by rw [wrap64 (by omega) (by omega)];omega]
   have:=expr_k l ((4-0:Nat):Int) e l (a:Int) 0 0 (by omega) (by omega) (14+k % 6) (by omega) 900 (by omega) (fun h=>by omega) a1 (by omega) 999999
   obtain ⟨s,a',g1,g2,g3,g4⟩:=this
   exact ⟨s,a',g1,by simp [eB];omega,by omega,by simp [fA];omega⟩
 | succ h ih=>
   intro hh d hd a ha
   obtain ⟨e,rfl⟩:∃ e,d=e+1:=⟨d-1,by omega⟩
   have hb:=eB_le h (by omega)
   have hb3:fA h≤45:=by
    have:h≤3:=by omega
    match h,this with
    | 0,_ | 1,_ | 2,_ | 3,_=>decide
   show FOk l (T153 Ops.std M94 (Rec153 e) ((4-(h+1):Nat):Int) l a (R153 M94 (Rec153 e) ((4-(h+1):Nat):Int) l a 1000000) some none) a _ _
   unfold T153
   obtain ⟨k,a1,e1,e2,e3,e4⟩:=qbb l a (by omega) 20 20 rfl (by omega) (by omega)
   rw [e4,ob_s]
   simp only [qam,qas,qab]
   rw [if_neg (by omega)]
   have hdeep:IntKind.wrap IntKind.i64 (((4-(h+1):Nat):Int)+1)=((4-h:Nat):Int):=by rw [wrap64 (by omega) (by omega)];omega
   have hrec:∀ a:Nat,a≤800-150*h→FOk l (Rec153 e (IntKind.wrap IntKind.i64 (((4-(h+1):Nat):Int)+1)) l a) a (eB h) (fA h):=fun a ha=>by
    rw [hdeep];exact ih (by omega) e (by omega) a ha
   have step:=fun (k:Nat) (hk:k<20)=>expr_k l ((4-(h+1):Nat):Int) e l (a:Int) (eB h) (fA h) (by omega) (by omega) k hk (800-150*h) (by omega) (fun _=>hrec) a1 (by omega) 999999
   have fin:∀ o,FOk l o a1 (2*eB h+10) (2*fA h+2)→FOk l o a (eB (h+1)) (fA (h+1)):=fun o ho=>by
    obtain ⟨s,a',g1,g2,g3,g4⟩:=ho
    exact ⟨s,a',g1,by simp only [eB];omega,by omega,by simp only [fA];omega⟩
   have ht:Int.tmod (k:Int) 6=((k % 6:Nat):Int):=by rw [show (6:Int)=((6:Nat):Int) from rfl,←Int.ofNat_tmod]
   split
   ·rw [if_neg (by omega),ht,show IntKind.wrap IntKind.i64 (14+((k % 6:Nat):Int))=((14+k % 6:Nat):Int) by rw [wrap64 (by omega) (by omega)];omega]
    exact fin _ (step (14+k % 6) (by omega))
   ·exact fin _ (step k e1)
theorem expr_ok (l:List Int) (h:Nat) (hh:h≤4) (m:Int) (hm:m=((4-h:Nat):Int)) (a:Nat) (ha:a≤200):FOk l (M153 m l a) a 310 93:=by
 subst hm
 have hb:=eB_le h hh
 obtain ⟨s,a',e1,e2,e3,e4⟩:=expr_h l h hh 1000000 (by omega) a (by omega)
 exact ⟨s,a',e1,by omega,e3,by omega⟩
theorem guard_ok (l:List Int) (a:Nat) (ha:a≤200):FOk l (M152 l a) a 10 2:=by
 show FOk l (T152 Ops.std M94 l a some) a _ _
 unfold T152
 simp only [qam,qas,qaq,qau,qab,mt]
 obtain ⟨j,a1,g1,g2,g3,g4⟩:=qbb l a (by omega) 2 2 rfl (by omega) (by omega)
 obtain ⟨i,a2,i1,i2,i3,i4⟩:=qbb l a1 (by omega) 9 9 rfl (by omega) (by omega)
 rw [g4,ob_s]
 dsimp only
 have hlen:=qa0 (n:=1) (l:=[[120],[121],[122]]) rfl (Int.toNat (j:Int))
 generalize ([[120],[121],[122]]:List (List UInt8)).getD (Int.toNat (j:Int)) []=x at hlen ⊢
 rw [if_pos (by omega),if_pos (by omega),if_pos (by omega),if_pos (by omega),if_pos (by omega),i4,ob_s]
 dsimp only
 rw [if_pos (by omega)]
 refine ⟨_,a2,rfl,qfr (fun y hy=>?_) _,by omega,by omega⟩
 simp only [List.mem_cons,List.not_mem_nil,or_false] at hy
 rcases hy with rfl | rfl | rfl | rfl | rfl | rfl | rfl | rfl | rfl<;>(try simp)<;>omega
theorem small_ok (l:List Int) (a:Nat) (ha:a≤200):FOk l (M154 l a) a 10 3:=by
 show FOk l (T154 Ops.std M94 l a some) a _ _
 unfold T154
 simp only [qam,qas,qaq,qau,qab,mt]
 obtain ⟨j,a1,g1,g2,g3,g4⟩:=qbb l a (by omega) 2 2 rfl (by omega) (by omega)
 obtain ⟨i,a2,i1,i2,i3,i4⟩:=qbb l a1 (by omega) 2 2 rfl (by omega) (by omega)
 obtain ⟨e,a3,e1,e2,e3,e4⟩:=qbb l a2 (by omega) 8 8 rfl (by omega) (by omega)
 rw [g4,ob_s]
 dsimp only
 have hlen:=qa0 (n:=1) (l:=[[120],[121],[122]]) rfl (Int.toNat (j:Int))
 have hlen2:=qa0 (n:=1) (l:=[[120],[121],[122]]) rfl (Int.toNat (i:Int))
 generalize ([[120],[121],[122]]:List (List UInt8)).getD (Int.toNat (j:Int)) []=x at hlen ⊢
 rw [if_pos (by omega),if_pos (by omega),if_pos (by omega),if_pos (by omega),if_pos (by omega),i4,ob_s]
 dsimp only
 generalize ([[120],[121],[122]]:List (List UInt8)).getD (Int.toNat (i:Int)) []=x2 at hlen2 ⊢
 rw [if_pos (by omega),e4,ob_s]
 dsimp only
 rw [if_pos (by omega)]
 refine ⟨_,a3,rfl,qfr (fun y hy=>?_) _,by omega,by omega⟩
 simp only [List.mem_cons,List.not_mem_nil,or_false] at hy
 rcases hy with rfl | rfl | rfl | rfl | rfl | rfl | rfl | rfl<;>(try simp)<;>omega
theorem qgg (l p0:List Int) (p1:Int) (k:Nat) (hk:k≤2):∀ (t i n:Nat) (s:List UInt8) (a:Nat),i+t=k→t<n→s.length≤340+20*i→a≤120+10*i→
  ∃ s',R92 M94 M152 M153 M154 p0 p1 n (.l0 s k i l a)=some s'∧s'.length≤400
 | t,i,0,s,a,hi,hn,hs,ha=>by omega
 | 0,i,n+1,s,a,hi,hn,hs,ha=>by
   show ∃ s',T92 Ops.std _ _ _ _ p0 p1 _ some _=some s'∧_
   unfold T92
   simp only [qam,qab]
   rw [if_neg (by omega)]
   exact ⟨s,rfl,by omega⟩
 | t+1,i,n+1,s,a,hi,hn,hs,ha=>by
   have ih:=qgg l p0 p1 k hk t (i+1) n
   show ∃ s',T92 Ops.std _ _ _ _ p0 p1 _ some _=some s'∧_
   unfold T92
   have hw:IntKind.wrap IntKind.i64 ((i:Int)+1)=((i+1:Nat):Int):=qan (by omega)
   simp only [qam,qas,qaq,qau,qab,mt,hw]
   obtain ⟨j,a1,g1,g2,g3,g4⟩:=qbb l a (by omega) 2 2 rfl (by omega) (by omega)
   obtain ⟨w,a2,e1,e2,e3,e4⟩:=small_ok l a1 (by omega)
   obtain ⟨q,a3,q1,q2,q3,q4⟩:=qbb l a2 (by omega) 6 6 rfl (by omega) (by omega)
   rw [if_pos (by omega),g4,ob_s]
   dsimp only
   have hlen:=qa0 (n:=1) (l:=[[120],[121],[122]]) rfl (Int.toNat (j:Int))
   generalize ([[120],[121],[122]]:List (List UInt8)).getD (Int.toNat (j:Int)) []=x at hlen ⊢
   rw [if_pos (by omega),e1,ob_s]
   dsimp only
   rw [q4,ob_s]
   dsimp only
   by_cases h0:(q:Int)=0
   ·rw [if_pos h0]
    simp only [List.length_append,List.length_cons,List.length_nil]
    rw [if_pos (by omega),if_pos (by omega),if_pos (by omega),if_pos (by omega)]
    exact ih _ a3 (by omega) (by omega) (by simp;omega) (by omega)
   ·rw [if_neg h0]
    by_cases h1:(q:Int)=1
    ·rw [if_pos h1]
     simp only [List.length_append,List.length_cons,List.length_nil]
     rw [if_pos (by omega),if_pos (by omega),if_pos (by omega),if_pos (by omega)]
     exact ih _ a3 (by omega) (by omega) (by simp;omega) (by omega)
    ·rw [if_neg h1]
     obtain ⟨u,a4,u1,u2,u3,u4⟩:=qbb l a3 (by omega) 2 2 rfl (by omega) (by omega)
     obtain ⟨v,a5,v1,v2,v3,v4⟩:=qbb l a4 (by omega) 3 3 rfl (by omega) (by omega)
     have hlen2:=qa0 (n:=1) (l:=[[120],[121],[122]]) rfl (Int.toNat (u:Int))
     simp only [List.length_append,List.length_cons,List.length_nil]
     rw [if_pos (by omega),if_pos (by omega),if_pos (by omega),if_pos (by omega),u4,ob_s]
     dsimp only
     generalize ([[120],[121],[122]]:List (List UInt8)).getD (Int.toNat (u:Int)) []=y at hlen2 ⊢
     rw [if_pos (by omega),if_pos (by omega),if_pos (by omega),v4,ob_s]
     dsimp only
     rw [if_pos (by omega),if_pos (by omega),if_pos (by omega),if_pos (by omega)]
     generalize hL:([_,_,_]:List (List UInt8))=L
     have hlen3:(L.getD (Int.toNat (v:Int)) []).length≤9:=qfr (fun z hz=>by
      subst hL
      simp only [List.mem_cons,List.not_mem_nil,or_false] at hz
      rcases hz with rfl | rfl | rfl<;>simp<;>omega) _
     generalize L.getD (Int.toNat (v:Int)) []=z at hlen3 ⊢
     rw [if_pos (by omega)]
     exact ih _ a5 (by omega) (by omega) (by simp;omega) (by omega)
theorem Trans_okM (l:List Int) (N:Nat) (m:Int) (hm:m=(N:Nat)) (h0N:0<N) (h3N:N≤3):∃ s,M92 l m=some s∧s.length≤400:=by
 show ∃ s,T92 Ops.std M94 M152 M153 M154 l m (R92 M94 M152 M153 M154 l m 1000000) some none=some s∧_
 unfold T92
 simp only [qam,qas,qaq,qau,qab,mt]
 obtain ⟨j,a1,g1,g2,g3,g4⟩:=qbb l 0 (by omega) N m hm (by omega) (by omega)
 obtain ⟨q,a2,q1,q2,q3,q4⟩:=qbb l a1 (by omega) 3 3 rfl (by omega) (by omega)
 obtain ⟨u,a3,u1,u2,u3,u4⟩:=qbb l a2 (by omega) 3 3 rfl (by omega) (by omega)
 obtain ⟨v,a4,v1,v2,v3,v4⟩:=qbb l a3 (by omega) 8 8 rfl (by omega) (by omega)
 obtain ⟨w,a5,e1,e2,e3,e4⟩:=guard_ok l a4 (by omega)
 obtain ⟨z,a6,z1,z2,z3,z4⟩:=qbb l a5 (by omega) 9 9 rfl (by omega) (by omega)
 have g4':M94 m l 0=some ((j:Int),l,(a1:Int)):=g4
 have hl1:=qa0 (n:=1) (l:=[[112],[113],[114]]) rfl (Int.toNat (j:Int))
 have hl2:=qa0 (n:=1) (l:=[[97],[98],[99],[100]]) rfl (Int.toNat (q:Int))
 have hl3:=qa0 (n:=1) (l:=[[97],[98],[99],[100]]) rfl (Int.toNat (u:Int))
 have hl4:=qa0 (n:=2) (l:=[[45],[45],[45],[45],[99,33],[99,63],[100,33],[99,63]]) rfl (Int.toNat (v:Int))
 have fin:∀ (s:List UInt8) (a:Nat) (f:Nat),f<4→s.length≤340→a≤120→∃ s',R92 M94 M152 M153 M154 l m 1000000 (.l0 s (([0,1,1,2]:List Int).getD (Int.toNat (f:Int)) 0) 0 l a)=some s'∧s'.length≤400:=fun s a f hf hs ha=>by
  obtain ⟨k,hk,hk2⟩:∃ k:Nat,([0,1,1,2]:List Int).getD (Int.toNat (f:Int)) 0=(k:Int)∧k≤2:=by
   match f,hf with
   | 0,_=>exact ⟨0,rfl,by omega⟩
   | 1,_=>exact ⟨1,rfl,by omega⟩
   | 2,_=>exact ⟨1,rfl,by omega⟩
   | 3,_=>exact ⟨2,rfl,by omega⟩
  rw [hk]
  exact qgg l l m k hk2 k 0 1000000 s a (by omega) (by omega) (by omega) (by omega)
 rw [g4',ob_s]
 dsimp only
 generalize ([[112],[113],[114]]:List (List UInt8)).getD (Int.toNat (j:Int)) []=x1 at hl1 ⊢
 rw [if_pos (by omega),if_pos (by omega),q4,ob_s]
 dsimp only
 generalize ([[97],[98],[99],[100]]:List (List UInt8)).getD (Int.toNat (q:Int)) []=x2 at hl2 ⊢
 simp only [List.length_append,List.length_cons,List.length_nil]
 rw [if_pos (by omega),if_pos (by omega),if_pos (by omega),u4,ob_s]
 dsimp only
 generalize ([[97],[98],[99],[100]]:List (List UInt8)).getD (Int.toNat (u:Int)) []=x3 at hl3 ⊢
 rw [if_pos (by omega),if_pos (by omega),if_pos (by omega),v4,ob_s]
 dsimp only
 generalize ([[45],[45],[45],[45],[99,33],[99,63],[100,33],[99,63]]:List (List UInt8)).getD (Int.toNat (v:Int)) []=x4 at hl4 ⊢
 rw [if_pos (by omega),if_pos (by omega),if_pos (by omega),e1,ob_s]
 dsimp only
 rw [z4,ob_s]
 dsimp only
 by_cases h8:(z:Int)=8
 ·obtain ⟨y,a7,y1,y2,y3,y4⟩:=expr_ok l 2 (by omega) 2 rfl a6 (by omega)
  obtain ⟨f,a8,f1,f2,f3,f4⟩:=qbb l a7 (by omega) 4 4 rfl (by omega) (by omega)
  rw [if_pos h8,y1,ob_s]
  dsimp only
  rw [if_pos (by omega),f4,ob_s]
  dsimp only
  rw [if_pos (by omega)]
  exact fin _ a8 f f1 (by simp;omega) (by omega)
 ·obtain ⟨f,a8,f1,f2,f3,f4⟩:=qbb l a6 (by omega) 4 4 rfl (by omega) (by omega)
  rw [if_neg h8,if_pos (by omega),f4,ob_s]
  dsimp only
  rw [if_pos (by omega)]
  exact fin _ a8 f f1 (by simp;omega) (by omega)
theorem wrapu64 {n:Int} (h1:0≤n) (h2:n≤18446744073709551615):IntKind.wrap IntKind.u64 n=n:=by
 simp [IntKind.wrap,IntKind.bits,IntKind.signed];omega
theorem plainly_d:∀ (d n:Nat),n<10 ^ d→d≤5→0<d→∀ f,d≤f→∃ s,Rec182 f (n:Int)=some s∧0<s.length∧s.length≤d
 | 0,n,hn,hd,h0,f,hf=>by omega
 | d+1,n,hn,hd,h0,f,hf=>by
   obtain ⟨e,rfl⟩:∃ e,f=e+1:=⟨f-1,by omega⟩
   have hp:10 ^ (d+1)=10*10 ^ d:=by rw [Nat.pow_succ];omega
   have hle:10 ^ (d+1)≤10 ^ 5:=Nat.pow_le_pow_right (by omega) hd
   have h5:(10:Nat) ^ 5=100000:=rfl
   show ∃ s,T182 Ops.std (Rec182 e) (n:Int) some=some s∧_
   unfold T182
   have hm:Int.tmod (n:Int) 10=((n % 10:Nat):Int):=by simp [Int.tmod_eq_emod_of_nonneg]
   have hq:Int.tdiv (n:Int) 10=((n / 10:Nat):Int):=by simp [Int.tdiv_eq_ediv_of_nonneg]
   have hlt:n % 10<10:=Nat.mod_lt _ (by omega)
   have hql:n / 10<10 ^ d:=by omega
   simp only [qas,qaq,qaz,qam,qau,qab,hm,hq,wrapu64 (show 0≤((n % 10:Nat):Int)+1 by omega) (by omega),wrapu64 (show 0≤((n / 10:Nat):Int) by omega) (by omega)]
   have h1:(0:Int)≤((n % 10:Nat):Int):=by omega
   have h2:((n % 10:Nat):Int)≤((n % 10:Nat):Int)+1:=by omega
   rw [if_neg (by omega),if_neg (by omega),if_pos (by omega)]
   simp only [h1,h2,decide_true,cond_true,if_true]
   have ht:(((n % 10:Nat):Int)+1).toNat=n % 10+1:=by omega
   rw [ht,qak]
   have hl:(List.drop (n % 10) (List.take (n % 10+1) ([48,49,50,51,52,53,54,55,56,57]:List UInt8))).length=1:=by simp;omega
   generalize List.drop (n % 10) (List.take (n % 10+1) ([48,49,50,51,52,53,54,55,56,57]:List UInt8))=w at hl
   by_cases h10:(n:Int)<10
   ·rw [if_pos h10]
    exact ⟨w,rfl,by omega,by omega⟩
   ·rw [if_neg h10,if_neg (by omega)]
    have hd0:0<d:=by
     rcases Nat.eq_zero_or_pos d with h | h
     ·subst h;simp at hql;omega
     ·exact h
    obtain ⟨s,hs,hs0,hsl⟩:=plainly_d d (n / 10) hql (by omega) hd0 e (by omega)
    rw [hs,ob_s,if_pos (by omega)]
    exact ⟨_,rfl,by simp;omega,by simp;omega⟩
theorem qea (n:Nat) (hn:n<100000):∃ s,M151 (n:Int)=some s∧s.length≤5:=by
 obtain ⟨s,h1,h2,h3⟩:=plainly_d 5 n (by omega) (by omega) (by omega) 1000000 (by omega)
 refine ⟨s,?_,h3⟩
 show T151 Ops.std M182 (n:Int) some=_
 unfold T151
 simp only [qam,qab]
 rw [if_neg (by omega),wrapu64 (by omega) (by omega)]
 have h1':M182 (n:Int)=some s:=h1
 rw [h1',ob_s]
theorem Decimal_ok (n:Nat) (hn:n<100000):∃ s,M91 (n:Int)=some s∧s.length≤5:=by
 obtain ⟨s,h1,h2⟩:=qea n hn
 refine ⟨s,?_,h2⟩
 show T91 Ops.std M151 (n:Int) some=_
 unfold T91
 rw [h1,ob_s]
noncomputable abbrev txR (p0 p1:Int) (p2:List (List Int)):=R48 M29 M91 M92 p0 p1 p2
section
variable (p0 p1:Int) (p2:List (List Int))
theorem text_l2 (N:Nat) (h0N:0<N) (h3N:N≤3):∀ (t i n:Nat) (s:List UInt8),i+t=10→t<n→s.length≤500+420*i→∃ s',txR p0 p1 p2 n (.l2 s (N:Nat) i)=some s'∧s'.length≤5000
 | t,i,0,s,hi,hn,hs=>by omega
 | 0,i,n+1,s,hi,hn,hs=>by
   show ∃ s',T48 Ops.std _ _ _ p0 p1 p2 _ some _=some s'∧_
   unfold T48
   simp only [qam,qab]
   by_cases h:(i:Int)<(p2.length:Int)
   ·rw [if_pos h,if_neg (by omega)];exact ⟨s,rfl,by omega⟩
   ·rw [if_neg h];exact ⟨s,rfl,by omega⟩
 | t+1,i,n+1,s,hi,hn,hs=>by
   have ih:=text_l2 N h0N h3N t (i+1) n
   show ∃ s',T48 Ops.std _ _ _ p0 p1 p2 _ some _=some s'∧_
   unfold T48
   have hw:IntKind.wrap IntKind.i64 (IntKind.wrap IntKind.i64 (3*(i:Int))+1)=((3*i+1:Nat):Int):=by rw [wrap64 (n:=3*(i:Int)) (by omega) (by omega),wrap64 (by omega) (by omega)];omega
   simp only [qam,qaq,qau,qab,qak,hw]
   by_cases h:(i:Int)<(p2.length:Int)
   ·rw [if_pos h,if_pos (by omega),if_pos (by omega),if_pos (by omega)]
    obtain ⟨w,h1,h2⟩:=Decimal_ok (3*i+1) (by omega)
    obtain ⟨u,h3,h4⟩:=Trans_okM (p2.getD i (Ty.dflt ty22)) N (N:Nat) rfl h0N h3N
    rw [h1,ob_s]
    simp only [List.length_append,List.length_cons,List.length_nil]
    rw [if_pos (by omega),if_pos (by omega),h3,ob_s,if_pos (by omega),if_pos (by omega),show IntKind.wrap IntKind.i64 ((i:Int)+1)=((i+1:Nat):Int) from qan (by omega)]
    exact ih _ (by omega) (by omega) (by simp;omega)
   ·rw [if_neg h];exact ⟨s,rfl,by omega⟩
theorem text_l1 (N:Nat) (h0N:0<N) (h3N:N≤3):∀ (t i n:Nat) (s:List UInt8),i+t=N→t+20<n→s.length≤200+30*i→∃ s',txR p0 p1 p2 n (.l1 s (N:Nat) i)=some s'∧s'.length≤5000
 | t,i,0,s,hi,hn,hs=>by omega
 | 0,i,n+1,s,hi,hn,hs=>by
   show ∃ s',T48 Ops.std _ _ _ p0 p1 p2 _ some _=some s'∧_
   unfold T48
   simp only [qam,qab]
   rw [if_neg (by omega)]
   exact text_l2 p0 p1 p2 N h0N h3N 10 0 n s (by omega) (by omega) (by omega)
 | t+1,i,n+1,s,hi,hn,hs=>by
   have ih:=text_l1 N h0N h3N t (i+1) n
   show ∃ s',T48 Ops.std _ _ _ p0 p1 p2 _ some _=some s'∧_
   unfold T48
   have hw:IntKind.wrap IntKind.i64 (2+(i:Int))=((i+2:Nat):Int):=by rw [wrap64 (by omega) (by omega)];omega
   simp only [qam,qaq,qau,qas,qab,hw,mt]
   obtain ⟨k,hk,h1⟩:=pickN (IntKind.wrap IntKind.i64 (Int.tdiv p0 ((i+2:Nat):Int))) 3 (by omega) (by omega)
   have h1':M29 (IntKind.wrap IntKind.i64 (Int.tdiv p0 ((i+2:Nat):Int))) 3=some (k:Int):=h1
   have hl:=qa0 (n:=1) (l:=[[112],[113],[114]]) rfl (Int.toNat (i:Int))
   generalize ([[112],[113],[114]]:List (List UInt8)).getD (Int.toNat (i:Int)) []=x at hl ⊢
   simp only [List.length_append,List.length_cons,List.length_nil]
   rw [if_pos (by omega),if_pos (by omega),if_pos (by omega),if_pos (by omega),if_pos (by omega),if_neg (by omega),h1',ob_s,show IntKind.wrap IntKind.i64 ((i:Int)+1)=((i+1:Nat):Int) from qan (by omega)]
   by_cases hk0:(k:Int)=0
   ·rw [if_pos hk0,if_pos (by omega),if_pos (by omega)]
    exact ih _ (by omega) (by omega) (by simp;omega)
   ·rw [if_neg hk0,if_pos (by omega)]
    exact ih _ (by omega) (by omega) (by simp;omega)
theorem text_l0 (V:Nat) (hV:V≤3) (h0V:2≤V) (hp:IntKind.wrap IntKind.i64 (2+(((V-2:Nat):Nat):Int))=(V:Int)) (hy:M29 p1 2=some ((V-2:Nat):Int)):∀ (t i n:Nat) (s:List UInt8),i+t=V→t+60<n→s.length≤30*i→∃ s',txR p0 p1 p2 n (.l0 s i)=some s'∧s'.length≤5000
 | t,i,0,s,hi,hn,hs=>by omega
 | 0,i,n+1,s,hi,hn,hs=>by
   show ∃ s',T48 Ops.std _ _ _ p0 p1 p2 _ some _=some s'∧_
   unfold T48
   rw [hy]
   simp only [qam,qas,qab,ob_s,hp]
   obtain ⟨k,hk,h1⟩:=pickN p0 4 (by omega) (by omega)
   have h1':M29 p0 4=some (k:Int):=h1
   rw [if_neg (by omega),h1',ob_s,if_neg (by decide)]
   have hq:Int.tdiv (k:Int) 3=((k / 3:Nat):Int):=by simp [Int.tdiv_eq_ediv_of_nonneg]
   rw [hq,wrap64 (n:=((k / 3:Nat):Int)) (by omega) (by omega),show IntKind.wrap IntKind.i64 (2+((k / 3:Nat):Int))=((k / 3+2:Nat):Int) by rw [wrap64 (by omega) (by omega)];omega]
   exact text_l1 p0 p1 p2 (k / 3+2) (by omega) (by omega) (k / 3+2) 0 n s (by omega) (by omega) (by omega)
 | t+1,i,n+1,s,hi,hn,hs=>by
   have ih:=text_l0 V hV h0V hp hy t (i+1) n
   show ∃ s',T48 Ops.std _ _ _ p0 p1 p2 _ some _=some s'∧_
   unfold T48
   rw [hy]
   have hw2:IntKind.wrap IntKind.i64 (2+(i:Int))=((i+2:Nat):Int):=by rw [wrap64 (by omega) (by omega)];omega
   have hw5:IntKind.wrap IntKind.i64 (5+(i:Int))=((i+5:Nat):Int):=by rw [wrap64 (by omega) (by omega)];omega
   simp only [qam,qaq,qau,qas,qab,ob_s,hp,hw2,hw5,mt]
   obtain ⟨k1,hk1,e1⟩:=pickN (IntKind.wrap IntKind.i64 (Int.tdiv p1 7)) 2 (by omega) (by omega)
   obtain ⟨k2,hk2,e2⟩:=pickN (IntKind.wrap IntKind.i64 (Int.tdiv p1 ((i+2:Nat):Int))) 3 (by omega) (by omega)
   obtain ⟨k3,hk3,e3⟩:=pickN (IntKind.wrap IntKind.i64 (Int.tdiv p1 ((i+5:Nat):Int))) 2 (by omega) (by omega)
   have e1':M29 (IntKind.wrap IntKind.i64 (Int.tdiv p1 7)) 2=some (k1:Int):=e1
   have e2':M29 (IntKind.wrap IntKind.i64 (Int.tdiv p1 ((i+2:Nat):Int))) 3=some (k2:Int):=e2
   have e3':M29 (IntKind.wrap IntKind.i64 (Int.tdiv p1 ((i+5:Nat):Int))) 2=some (k3:Int):=e3
   have hl:=qa0 (n:=1) (l:=[[120],[121],[122]]) rfl (Int.toNat (i:Int))
   generalize ([[120],[121],[122]]:List (List UInt8)).getD (Int.toNat (i:Int)) []=x at hl ⊢
   simp only [List.length_append,List.length_cons,List.length_nil]
   rw [if_pos (by omega),if_pos (by omega),if_pos (by omega),if_pos (by omega),if_pos (by omega),if_neg (by omega),if_neg (by omega),if_neg (by omega),e1',ob_s,if_pos (by omega)]
   have hl1:=qa0 (n:=2) (l:=[[48],[45,49]]) rfl (Int.toNat (k1:Int))
   generalize ([[48],[45,49]]:List (List UInt8)).getD (Int.toNat (k1:Int)) []=x1 at hl1 ⊢
   rw [if_pos (by omega),if_pos (by omega),e2',ob_s,if_pos (by omega)]
   have hl2:=qa0 (n:=1) (l:=[[49],[50],[51]]) rfl (Int.toNat (k2:Int))
   generalize ([[49],[50],[51]]:List (List UInt8)).getD (Int.toNat (k2:Int)) []=x2 at hl2 ⊢
   rw [if_pos (by omega),if_pos (by omega),e3',ob_s,if_pos (by omega)]
   have hl3:=qa0 (n:=1) (l:=[[48],[49]]) rfl (Int.toNat (k3:Int))
   generalize ([[48],[49]]:List (List UInt8)).getD (Int.toNat (k3:Int)) []=x3 at hl3 ⊢
   rw [if_pos (by omega),if_pos (by omega),show IntKind.wrap IntKind.i64 ((i:Int)+1)=((i+1:Nat):Int) from qan (by omega)]
   exact ih _ (by omega) (by omega) (by simp;omega)
theorem Text_ok:∃ s,M48 p0 p1 p2=some s∧s.length≤5000:=by
 show ∃ s,T48 Ops.std M29 M91 M92 p0 p1 p2 (txR p0 p1 p2 1000000) some none=some s∧_
 unfold T48
 obtain ⟨k,hk,h1⟩:=pickN p1 2 (by omega) (by omega)
 have h1':M29 p1 2=some (((k+2)-2:Nat):Int):=h1
 exact text_l0 p0 p1 p2 (k+2) (by omega) (by omega) (by rw [wrap64 (by omega) (by omega)];omega) h1' (k+2) 0 1000000 [] (by omega) (by omega) (by simp)
end
def okL (L:Nat) (l:List (List UInt8)):Prop:=∀ w∈l,w.length≤L
theorem okL.app {L:Nat} {l:List (List UInt8)} {w:List UInt8} (h:okL L l) (hw:w.length≤L):okL L (l++[w]):=fun x hx=>by
 rcases List.mem_append.1 hx with hx | hx
 ·exact h x hx
 ·simp only [List.mem_singleton] at hx;rw [hx];exact hw
theorem okL.get {L:Nat} {l:List (List UInt8)} (h:okL L l) (k:Nat):(l.getD k []).length≤L:=by
 rw [List.getD_eq_getElem?_getD]
 by_cases hk:k<l.length
 ·rw [List.getElem?_eq_getElem hk];exact h _ (List.getElem_mem hk)
 ·rw [List.getElem?_eq_none (by omega)];simp
noncomputable abbrev cutR (s:List UInt8) (c:Int):=R86 s c
theorem cut_loop (s:List UInt8) (hs:s.length≤60000) (c:Int):∀ (t i n fr:Nat) (out:List (List UInt8)),i+t=s.length→t<n→fr≤i→out.length≤i→okL s.length out→∃ l,cutR s c n (.l0 fr i out)=some l∧0<l.length∧l.length≤s.length+1∧okL s.length l
 | t,i,0,fr,out,hi,hn,hf,ho,hk=>by omega
 | 0,i,n+1,fr,out,hi,hn,hf,ho,hk=>by
   show ∃ l,T86 Ops.std s c _ some _=some l∧_
   unfold T86
   simp only [qam,qaq,qau,qab,qak,mt,List.length_cons,List.length_nil]
   rw [if_neg (by omega),if_pos (by omega),if_pos (by omega)]
   exact ⟨_,rfl,by simp,by simp;omega,hk.app (by simp)⟩
 | t+1,i,n+1,fr,out,hi,hn,hf,ho,hk=>by
   have ih:=cut_loop s hs c t (i+1) n
   show ∃ l,T86 Ops.std s c _ some _=some l∧_
   unfold T86
   have hw:IntKind.wrap IntKind.i64 ((i:Int)+1)=((i+1:Nat):Int):=qan (by omega)
   have h1:(0:Int)≤(fr:Int):=by omega
   have h2:(fr:Int)≤(i:Int):=by omega
   simp only [qam,qaq,qau,qaz,qas,qab,qak,mt,List.length_cons,List.length_nil,hw,h1,h2,decide_true,cond_true,if_true]
   rw [if_pos (by omega),if_pos (by omega)]
   split
   ·rw [if_pos (by omega),if_pos (by omega)]
    exact ih (i+1) _ (by omega) (by omega) (by omega) (by simp;omega) (hk.app (by simp;omega))
   ·exact ih fr out (by omega) (by omega) (by omega) (by omega) hk
theorem cut_ok (s:List UInt8) (hs:s.length≤60000) (c:Int):∃ l,M86 s c=some l∧0<l.length∧l.length≤s.length+1∧okL s.length l:=by
 show ∃ l,T86 Ops.std s c (cutR s c 1000000) some none=some l∧_
 unfold T86
 exact cut_loop s hs c s.length 0 1000000 0 [] (by omega) (by omega) (by omega) (by simp) (fun w h=>by cases h)
theorem qgh (p:List UInt8) (L:Nat) (l:List (List UInt8)) (hl:l.length≤100000) (hL:okL L l):∀ (t i n:Nat) (out:List (List UInt8)),i+t=l.length→t<n→out.length≤i→okL L out→∃ r,R87 M86 p n (.l0 i out l)=some r∧r.length≤l.length∧okL L r
 | t,i,0,out,hi,hn,ho,hk=>by omega
 | 0,i,n+1,out,hi,hn,ho,hk=>by
   show ∃ r,T87 Ops.std _ p _ some _=some r∧_
   unfold T87
   simp only [qam,qab]
   rw [if_neg (by omega)]
   exact ⟨out,rfl,by omega,hk⟩
 | t+1,i,n+1,out,hi,hn,ho,hk=>by
   have ih:=qgh p L l hl hL t (i+1) n
   show ∃ r,T87 Ops.std _ p _ some _=some r∧_
   unfold T87
   have hw:IntKind.wrap IntKind.i64 ((i:Int)+1)=((i+1:Nat):Int):=qan (by omega)
   simp only [qam,qaq,qau,qab,qak,mt,List.length_cons,List.length_nil,hw]
   rw [if_pos (by omega),if_pos (by omega)]
   cases hb:!(l.getD i (Ty.dflt ty9) == ([]:List UInt8)) with
   | false=>simp only [cond_false];exact ih out (by omega) (by omega) (by omega) hk
   | true=>
     simp only [cond_true]
     rw [if_pos (by omega),if_pos (by omega)]
     exact ih _ (by omega) (by omega) (by simp;omega) (hk.app (hL.get i))
theorem words_ok (s:List UInt8) (hs:s.length≤60000):∃ l,M87 s=some l∧l.length≤s.length+1∧okL s.length l:=by
 obtain ⟨l,h1,h2,h3,h4⟩:=cut_ok s hs 32
 show ∃ l,T87 Ops.std M86 s (R87 M86 s 1000000) some none=some l∧_
 unfold T87
 rw [h1,ob_s]
 obtain ⟨r,r1,r2,r3⟩:=qgh s s.length l (by omega) h4 l.length 0 1000000 [] (by omega) (by omega) (by simp) (fun w h=>by cases h)
 exact ⟨r,r1,by omega,r3⟩
theorem skip_all (p0:List UInt8) (p1:Int):∀ n:Nat,(∀ (s:List UInt8) (k:Nat),k≤1000→s.length+3*k+1≤n→∃ s',R90 p0 p1 n (.l0 s (k:Nat))=some s'∧s'.length≤s.length)∧
  (∀ (s:List UInt8) (k:Nat),k≤1000→1≤k→s.length+3*k≤n→∃ s',R90 p0 p1 n (.l1 s (k:Nat))=some s'∧s'.length≤s.length)∧
  (∀ (s:List UInt8) (k:Nat),k≤1000→1≤k→s.length+3*k≤n+1→∃ s',R90 p0 p1 n (.l2 s (k:Nat))=some s'∧s'.length≤s.length)
 | 0=>⟨fun s k h0 h=>by omega,fun s k h0 h1 h=>by omega,fun s k h0 h1 h=>by omega⟩
 | n+1=>by
   obtain ⟨ia,ib,ic⟩:=skip_all p0 p1 n
   refine ⟨fun s k h0 h=>?_,fun s k h0 h1 h=>?_,fun s k h0 h1 h=>?_⟩
   ·show ∃ s',T90 Ops.std p0 p1 _ some _=some s'∧_
    unfold T90
    simp only [qam,qab]
    by_cases hk:0<k
    ·rw [if_pos (by omega)];exact ib s k h0 (by omega) (by omega)
    ·rw [if_neg (by omega)];exact ⟨s,rfl,by omega⟩
   ·show ∃ s',T90 Ops.std p0 p1 _ some _=some s'∧_
    unfold T90
    simp only [qam,qaq,qas,qab,List.take_length]
    by_cases hs:0<s.length
    ·rw [if_pos (by omega),if_pos (by omega)]
     split
     ·rw [if_pos (by omega)]
      obtain ⟨s',e1,e2⟩:=ib (s.drop (Int.toNat 1)) k h0 h1 (by simp;omega)
      exact ⟨s',e1,by simp at e2;omega⟩
     ·exact ic s k h0 h1 (by omega)
    ·rw [if_neg (by omega)];exact ic s k h0 h1 (by omega)
   ·show ∃ s',T90 Ops.std p0 p1 _ some _=some s'∧_
    unfold T90
    have hw:IntKind.wrap IntKind.i64 ((k:Int)-1)=((k-1:Nat):Int):=by rw [wrap64 (by omega) (by omega)];omega
    simp only [qam,qaq,qas,qa2,qab,List.take_length,hw]
    by_cases hs:0<s.length
    ·rw [if_pos (by omega),if_pos (by omega)]
     split
     ·rw [if_pos (by omega)]
      obtain ⟨s',e1,e2⟩:=ic (s.drop (Int.toNat 1)) k h0 h1 (by simp;omega)
      exact ⟨s',e1,by simp at e2;omega⟩
     ·exact ia s (k-1) (by omega) (by omega)
    ·rw [if_neg (by omega)];exact ia s (k-1) (by omega) (by omega)
theorem skip_ok (s:List UInt8) (hs:s.length≤60000) (k:Nat) (hk:k≤10):∃ s',M90 s (k:Nat)=some s'∧s'.length≤s.length:=by
 show ∃ s',T90 Ops.std s (k:Nat) (R90 s (k:Nat) 1000000) some none=some s'∧_
 unfold T90
 exact (skip_all s (k:Nat) 1000000).1 s k (by omega) (by omega)
theorem qdg (s:List UInt8) (b:Bool) (d:Nat):∀ (t i n:Nat) (v:Int),i+t=4→t<n→∃ r,R147 (Rec147 d) M104 s b n (.l0 v i)=some r
 | t,i,0,v,hi,hn=>by omega
 | t,i,n+1,v,hi,hn=>by
   have ih:=fun (h:0<t)=>qdg s b d (t-1) (i+1) n
   show ∃ r,T147 Ops.std _ _ s b _ some _=some r
   unfold T147
   have hw:IntKind.wrap IntKind.i64 ((i:Int)+1)=((i+1:Nat):Int):=qan (by omega)
   simp only [qam,qaq,qab,qak,qbr,ob_s,hw]
   by_cases h:(i:Int)<(s.length:Int)
   ·rw [if_pos h,if_pos (by omega)]
    cases !digitP' (s.getD i 0) with
    | true=>exact ⟨_,rfl⟩
    | false=>
      simp only [cond_false]
      rw [if_pos (by omega)]
      by_cases h2:(2:Int)<(i:Int)
      ·rw [if_pos h2];exact ⟨_,rfl⟩
      ·rw [if_neg h2];exact ih (by omega) _ (by omega) (by omega)
   ·rw [if_neg h];exact ⟨_,rfl⟩
theorem amount_f (s:List UInt8) (d:Nat):∃ r,Rec147 (d+1) s false=some r:=by
 show ∃ r,T147 Ops.std (Rec147 d) M104 s false (R147 (Rec147 d) M104 s false 1000000) some none=some r
 unfold T147
 exact qdg s false d 4 0 1000000 0 (by omega) (by omega)
theorem qds (s:List UInt8) (b:Bool):∃ n ok,M147 s b=some (n,ok):=by
 have key:∃ r,Rec147 (999998+1+1) s b=some r:=by
  cases b with
  | false=>exact amount_f s _
  | true=>
    show ∃ r,T147 Ops.std (Rec147 (999998+1)) M104 s true (R147 (Rec147 (999998+1)) M104 s true 1000000) some none=some r
    have hz:=qdg s true (999998+1) 4 0 1000000 0 (by omega) (by omega)
    unfold T147
    simp only [qam,qaq,qas,qab,cond_true]
    by_cases h:(1:Int)<(s.length:Int)
    ·rw [if_pos h,if_pos (by omega)]
     split
     ·rw [if_pos (by omega)]
      obtain ⟨r,hr⟩:=amount_f ((s.take s.length).drop (Int.toNat 1)) 999998
      rw [hr]
      exact ⟨_,rfl⟩
     ·exact hz
    ·rw [if_neg h];exact hz
 obtain ⟨⟨n,ok⟩,h⟩:=key
 exact ⟨n,ok,h⟩
theorem parseVar_ok (w:List (List UInt8)) (L:Nat) (hw:okL L w):∃ nm lo hi ini ok,M88 w=some (nm,lo,hi,ini,ok)∧nm.length≤L:=by
 show ∃ nm lo hi ini ok,T88 Ops.std M147 w some=some (nm,lo,hi,ini,ok)∧_
 unfold T88
 simp only [qas,qaq,qa2,qab,mt]
 by_cases h:((w.length:Nat):Int)=4
 ·rw [if_neg (by simp [h]),if_pos (by omega)]
  obtain ⟨n1,o1,e1⟩:=qds (w.getD (Int.toNat 1) (Ty.dflt ty9)) true
  obtain ⟨n2,o2,e2⟩:=qds (w.getD (Int.toNat 2) (Ty.dflt ty9)) true
  obtain ⟨n3,o3,e3⟩:=qds (w.getD (Int.toNat 3) (Ty.dflt ty9)) true
  rw [e1,ob_s,if_pos (by omega),e2,ob_s,if_pos (by omega),e3,ob_s,if_pos (by omega)]
  have hg:=hw.get (Int.toNat 0)
  cases o1<;>cases o2<;>exact ⟨_,_,_,_,_,rfl,hg⟩
 ·rw [if_pos h]
  exact ⟨_,_,_,_,_,rfl,by simp⟩
theorem qeb (s:List UInt8) (hs:s.length<900000):∃ c ok,M106 s=some (c,ok):=by
 show ∃ c ok,T106 Ops.std M58 s some=some (c,ok)
 unfold T106
 cases hb:s == mt UInt8 with
 | true=>exact ⟨_,_,rfl⟩
 | false=>
   have h0:0<s.length:=by
    cases s with
    | nil=>cases hb
    | cons a b=>simp
   have hw:IntKind.wrap IntKind.i64 ((s.length:Int)-1)=((s.length-1:Nat):Int):=by rw [wrap64 (by omega) (by omega)];omega
   simp only [qaq,qab,cond_false,hw,qak]
   rw [if_pos (by omega),if_pos (by omega),qa9 _ (by simp;omega),ob_s]
   generalize isWordP _=b
   generalize (List.drop (s.length-1) (List.take s.length s) == [33])=b2
   cases b<;>cases b2<;>exact ⟨_,_,rfl⟩
theorem id_ok (n:Int):M107 n=some (decide (1≤n∧n≤999)):=by
 show T107 Ops.std n some=_
 unfold T107
 simp only [qaz,qab]
 by_cases h:1≤n
 ·rw [if_pos h];simp [h]
 ·rw [if_neg h];simp [h]
theorem w999_ok (n:Int):M59 n=some (decide (-999≤n∧n≤999)):=by
 show T59 Ops.std n some=_
 unfold T59
 simp only [qaz,qab]
 by_cases h:-999≤n
 ·rw [if_pos h];simp [h]
 ·rw [if_neg h];simp [h]
def shortE (f:List Trm):Prop:=f.length≤30∧∀ t∈f,t.2.2.1.length≤8∧t.2.2.2.length≤8
theorem qb7:shortE []:=⟨by simp,fun t h=>by cases h⟩
theorem shortE.of {f:List Trm} (h:rightE f=true):shortE f:=qbx h
theorem shortE.small {f:List Trm} (h:shortE f):smallE f:=⟨by have:=h.1;omega,fun t ht=>by have:=h.2 t ht;omega⟩
theorem shortE.right {f:List Trm} (h:shortE f):M110 f=some (rightE f):=qf8 f h.small (by have:=h.1;omega)
theorem parse7_ok (s:List UInt8):∃ e x f,M148 s=some (e,x,f)∧shortE f∧(e=0→rightE f=true):=by
 show ∃ e x f,T148 Ops.std M82 M177 s some=some (e,x,f)∧_
 unfold T148
 rw [lex_ref,ob_s]
 rcases hl:lexS s with ⟨e,x,l⟩
 simp only [qas,qaq,qa2,qab,mt]
 by_cases he:e=0
 ·subst he
  obtain ⟨h1,h2,h3⟩:=lexS_ok hl
  rw [if_neg (by simp)]
  have hln:=toks_len h1
  obtain ⟨k,e2,y,t1,t2,t3⟩:=take_ok h1 (by omega) 0 hln
  have t1':M177 l 0=some ((k:Int),e2,y):=t1
  rw [t1',ob_s]
  dsimp only
  rcases t3 with ⟨rfl,_,hr,_⟩ | ⟨rfl,rfl⟩ | ⟨rfl,rfl,_⟩
  ·rw [if_neg (by simp),if_pos (by omega)]
   split
   ·rw [if_pos (by omega)]
    exact ⟨_,_,_,rfl,qb7,fun h=>by cases h⟩
   ·exact ⟨_,_,_,rfl,shortE.of hr,fun _=>hr⟩
  ·rw [if_pos (by decide),if_pos (by omega)]
   exact ⟨_,_,_,rfl,qb7,fun h=>by cases h⟩
  ·rw [if_pos (by decide),if_pos (by omega)]
   exact ⟨_,_,_,rfl,qb7,fun h=>by cases h⟩
 ·rw [if_pos he]
  exact ⟨_,_,_,rfl,qb7,fun h=>absurd h he⟩
abbrev Eff:=List UInt8×List Trm
def okEf (x:Eff):Prop:=x.1.length≤8∧rightE x.2=true
theorem qet (p:List (List UInt8)) (hp:p.length≤100000):∀ (t i n:Nat) (out:List Eff),i+t=p.length→t<n→out.length≤i→(∀ x∈out,okEf x)→
  ∃ b o,R149 M82 M177 p n (.l0 i out)=some (b,o)∧o.length≤p.length∧∀ x∈o,okEf x
 | t,i,0,out,hi,hn,ho,hk=>by omega
 | 0,i,n+1,out,hi,hn,ho,hk=>by
   show ∃ b o,T149 Ops.std _ _ p _ some _=some (b,o)∧_
   unfold T149
   simp only [qam,qab]
   rw [if_neg (by omega)]
   exact ⟨_,_,rfl,by omega,hk⟩
 | t+1,i,n+1,out,hi,hn,ho,hk=>by
   have ih:=qet p hp t (i+1) n
   have bad:∃ b o,(some ((false,([]:List Eff))):Option (Bool×List Eff))=some (b,o)∧o.length≤p.length∧∀ x∈o,okEf x:=⟨_,_,rfl,by simp,fun x h=>by cases h⟩
   show ∃ b o,T149 Ops.std _ _ p _ some _=some (b,o)∧_
   unfold T149
   have hw:IntKind.wrap IntKind.i64 ((i:Int)+1)=((i+1:Nat):Int):=qan (by omega)
   simp only [qam,qaq,qau,qas,qa2,qab,qak,mt,List.length_cons,List.length_nil,hw]
   rw [if_pos (by omega),if_pos (by omega),lex_ref,ob_s]
   rcases hl:lexS (p.getD i (Ty.dflt ty9)) with ⟨e,x,l⟩
   dsimp only
   by_cases he:e=0
   ·subst he
    obtain ⟨h1,h2,h3⟩:=lexS_ok hl
    rw [if_neg (by simp)]
    by_cases h3l:(l.length:Int)<3
    ·rw [if_pos h3l];exact bad
    ·rw [if_neg h3l,if_pos (by omega)]
     by_cases hk0:(l.getD (Int.toNat 0) (Ty.dflt ty130)).1=2
     ·rw [if_neg (fun h=>h hk0),if_pos (by omega)]
      by_cases hk1:(l.getD (Int.toNat 1) (Ty.dflt ty130)).1=4
      ·rw [if_neg (fun h=>h hk1),if_pos (by omega)]
       cases !(l.getD (Int.toNat 1) (Ty.dflt ty130)).2.1 == ([61]:List UInt8) with
       | true=>simp only [cond_true];exact bad
       | false=>
         simp only [cond_false]
         obtain ⟨k,e2,y,t1,t2,t3⟩:=take_ok h1 (by omega) 2 (by omega)
         have t1':M177 l 2=some ((k:Int),e2,y):=t1
         rw [t1',ob_s]
         dsimp only
         rcases t3 with ⟨rfl,_,hr,_⟩ | ⟨rfl,rfl⟩ | ⟨rfl,rfl,_⟩
         ·rw [if_neg (by simp),if_pos (by omega)]
          split
          ·exact bad
          ·rw [if_pos (by omega),if_pos (by omega)]
           refine ih _ (by omega) (by omega) (by simp;omega) fun z hz=>?_
           rcases List.mem_append.1 hz with hz | hz
           ·exact hk z hz
           ·simp only [List.mem_singleton] at hz
            rw [hz]
            refine ⟨?_,hr⟩
            have:=(toks_at h1 (i:=0) (by omega) (Ty.dflt ty130)).2.1.2 hk0
            exact qe1 this
         ·rw [if_pos (by decide)];exact bad
         ·rw [if_pos (by decide)];exact bad
      ·rw [if_pos hk1];exact bad
     ·rw [if_pos hk0];exact bad
   ·rw [if_pos he];exact bad
theorem effects_ok (p:List (List UInt8)) (hp:p.length≤100000):∃ b o,M149 p=some (b,o)∧o.length≤p.length∧∀ x∈o,okEf x:=by
 show ∃ b o,T149 Ops.std M82 M177 p (R149 M82 M177 p 1000000) some none=some (b,o)∧_
 unfold T149
 exact qet p hp p.length 0 1000000 [] (by omega) (by omega) (by simp) (fun x h=>by cases h)
def pB:Nat→Nat
 | 0=>20
 | i+1=>2*pB i+20
theorem pB_le:∀ i,i≤30→pB i≤43000000000:=by decide
theorem pB_ge:∀ i,20≤pB i
 | 0=>by simp [pB]
 | i+1=>by have:=pB_ge i;simp only [pB];omega
theorem qcz (s:List UInt8) (a b:Int) (hs:s.length≤100000000000):∃ r,M179 s a b=some r∧r.length≤s.length+2:=by
 show ∃ r,T179 Ops.std s a b some=some r∧_
 unfold T179
 simp only [qam,qau,qab,List.length_append,List.length_cons,List.length_nil]
 by_cases h:a<b
 ·rw [if_pos h,if_pos (by omega),if_pos (by omega)];exact ⟨_,rfl,by simp⟩
 ·rw [if_neg h];exact ⟨s,rfl,by omega⟩
theorem may_num {t:Trm} (h:mayT t=true) (h1:t.1=1):0≤t.2.1∧t.2.1≤999:=by
 unfold mayT at h
 simp [h1] at h
 omega
theorem rightE_may {e:List Trm} (h:rightE e=true):∀ t∈e,mayT t=true:=by
 unfold rightE fin30 at h
 cases hg:eGo e 0 with
 | none=>rw [hg] at h;cases h
 | some d=>exact eGo_may e 0 d hg
abbrev Sd:=List UInt8×Int
noncomputable abbrev prR (e:List Trm):=R145 M110 M178 M161 M151 M179 e
def okS (L:Nat) (st:List Sd):Prop:=∀ x∈st,x.1.length≤L
theorem okS.mono {L L':Nat} {st:List Sd} (h:okS L st) (hl:L≤L'):okS L' st:=fun x hx=>Nat.le_trans (h x hx) hl
theorem okS.app {L:Nat} {st:List Sd} {x:Sd} (h:okS L st) (hx:x.1.length≤L):okS L (st++[x]):=fun y hy=>by
 rcases List.mem_append.1 hy with hy | hy
 ·exact h y hy
 ·simp only [List.mem_singleton] at hy;rw [hy];exact hx
theorem okS.take {L:Nat} {st:List Sd} (h:okS L st) (k:Nat):okS L (st.take k):=fun y hy=>h y (List.mem_of_mem_take hy)
theorem okS.get {L:Nat} {st:List Sd} (h:okS L st) (k:Nat) (hk:k<st.length) (d:Sd):(st.getD k d).1.length≤L:=by
 rw [List.getD_eq_getElem?_getD,List.getElem?_eq_getElem hk];exact h _ (List.getElem_mem hk)
def sgnL:List (List UInt8):=[[],[],[],[],[33],[45],[42],[43],[45],[60],[60,61],[62],[62,61],[61,61],[33,61],[38,38],[124,124]]
theorem sgnL_len (k:Nat):(sgnL.getD k []).length≤2:=qa0 (n:=2) rfl k
theorem qgi (e:List Trm) (he:rightE e=true):∀ (t i n:Nat) (st:List Sd),i+t=e.length→t<n→st.length≤i→okS (pB i) st→∃ s,prR e n (.l0 i st)=some s∧s.length≤43000000000
 | t,i,0,st,hi,hn,ho,hk=>by omega
 | 0,i,n+1,st,hi,hn,ho,hk=>by
   have hsh:=shortE.of he
   have hB:=pB_le i (by have:=hsh.1;omega)
   show ∃ s,T145 Ops.std _ _ _ _ _ e _ some _=some s∧_
   unfold T145
   simp only [qam,qaq,qas,qab]
   rw [if_neg (by omega)]
   by_cases h0:((st.length:Nat):Int)=0
   ·rw [if_pos h0];exact ⟨_,rfl,by simp⟩
   ·rw [if_neg h0,if_pos (by omega)]
    exact ⟨_,rfl,by have:=hk.get 0 (by omega) (Ty.dflt ty210);exact Nat.le_trans this hB⟩
 | t+1,i,n+1,st,hi,hn,ho,hk=>by
   have ih:=qgi e he t (i+1) n
   have hsh:=shortE.of he
   have h30:=hsh.1
   have hB:=pB_le i (by omega)
   have hG:=pB_ge i
   have hB1:pB (i+1)=2*pB i+20:=rfl
   obtain ⟨x,hx⟩:∃ x,e.getD i (Ty.dflt ty150)=x:=⟨_,rfl⟩
   have hm:x∈e:=by
    rw [←hx,List.getD_eq_getElem?_getD,List.getElem?_eq_getElem (by omega)];exact List.getElem_mem _
   have hmay:=rightE_may he _ hm
   have hnm:=hsh.2 _ hm
   have hop:=mayT_op hmay
   show ∃ s,T145 Ops.std _ _ _ _ _ e _ some _=some s∧_
   unfold T145
   have hw:IntKind.wrap IntKind.i64 ((i:Int)+1)=((i+1:Nat):Int):=qan (by omega)
   obtain ⟨v,hv⟩:=qdo x.1
   simp only [qam,qaq,qau,qas,qab,qak,hx,hw,hv,opE_ref,ob_s,mt,List.length_cons,List.length_nil]
   rw [if_pos (by omega),if_pos (by omega)]
   by_cases o0:opE x.1=0
   ·rw [if_pos o0]
    by_cases h1:x.1=1
    ·obtain ⟨q1,q2⟩:=may_num hmay h1
     obtain ⟨s,d1,d2⟩:=qea x.2.1.toNat (by omega)
     rw [Int.toNat_of_nonneg q1] at d1
     rw [if_pos h1,d1,ob_s,if_pos (by omega)]
     exact ih _ (by omega) (by omega) (by simp;omega) ((hk.mono (by omega)).app (by show s.length≤_;omega))
    ·rw [if_neg h1]
     by_cases h2:x.1=2
     ·rw [if_pos h2,if_pos (by omega)]
      exact ih _ (by omega) (by omega) (by simp;omega) ((hk.mono (by omega)).app (by show x.2.2.1.length≤_;omega))
     ·rw [if_neg h2]
      simp only [List.length_append,List.length_cons,List.length_nil]
      rw [if_pos (by omega),if_pos (by omega),if_pos (by omega)]
      exact ih _ (by omega) (by omega) (by simp;omega) ((hk.mono (by omega)).app (by show (x.2.2.1++([64]:List UInt8)++x.2.2.2).length≤_;simp;omega))
   ·rw [if_neg o0]
    have hop17:0≤x.1∧x.1<17:=by unfold opE at hop;split at hop<;>omega
    have hsl:(([[],[],[],[],[33],[45],[42],[43],[45],[60],[60,61],[62],[62,61],[61,61],[33,61],[38,38],[124,124]]:List (List UInt8)).getD (Int.toNat x.1) []).length≤2:=sgnL_len (Int.toNat x.1)
    by_cases o1:opE x.1=1
    ·rw [if_pos o1]
     by_cases hl:((st.length:Nat):Int)<1
     ·rw [if_pos hl];exact ⟨_,rfl,by simp⟩
     ·have hw1:IntKind.wrap IntKind.i64 ((st.length:Int)-1)=((st.length-1:Nat):Int):=by rw [wrap64 (by omega) (by omega)];omega
      rw [if_neg hl]
      simp only [hw1,qak]
      have hg:=hk.get (st.length-1) (by omega) (Ty.dflt ty210)
      obtain ⟨r,r1,r2⟩:=qcz (st.getD (st.length-1) (Ty.dflt ty210)).1 (st.getD (st.length-1) (Ty.dflt ty210)).2 v (by omega)
      rw [if_pos (by omega),if_pos (by omega),r1,ob_s]
      generalize ([[],[],[],[],[33],[45],[42],[43],[45],[60],[60,61],[62],[62,61],[61,61],[33,61],[38,38],[124,124]]:List (List UInt8)).getD (Int.toNat x.1) []=sg at hsl ⊢
      rw [if_pos (by omega),if_pos (by omega),if_pos (by simp;omega)]
      exact ih _ (by omega) (by omega) (by simp;omega) (((hk.mono (by omega)).take _).app (by show (sg++r).length≤_;simp;omega))
    ·rw [if_neg o1]
     by_cases hl:((st.length:Nat):Int)<2
     ·rw [if_pos hl];exact ⟨_,rfl,by simp⟩
     ·have hw1:IntKind.wrap IntKind.i64 ((st.length:Int)-1)=((st.length-1:Nat):Int):=by rw [wrap64 (by omega) (by omega)];omega
      have hw2:IntKind.wrap IntKind.i64 ((st.length:Int)-2)=((st.length-2:Nat):Int):=by rw [wrap64 (by omega) (by omega)];omega
      rw [if_neg hl]
      simp only [hw1,hw2,qak]
      have hg1:=hk.get (st.length-1) (by omega) (Ty.dflt ty210)
      have hg2:=hk.get (st.length-2) (by omega) (Ty.dflt ty210)
      generalize ([[],[],[],[],[33],[45],[42],[43],[45],[60],[60,61],[62],[62,61],[61,61],[33,61],[38,38],[124,124]]:List (List UInt8)).getD (Int.toNat x.1) []=sg at hsl ⊢
      by_cases h3:v=3
      ·rw [if_pos h3]
       obtain ⟨a,a1,a2⟩:=qcz (st.getD (st.length-2) (Ty.dflt ty210)).1 (st.getD (st.length-2) (Ty.dflt ty210)).2 4 (by omega)
       obtain ⟨c,c1,c2⟩:=qcz (st.getD (st.length-1) (Ty.dflt ty210)).1 (st.getD (st.length-1) (Ty.dflt ty210)).2 (IntKind.wrap IntKind.i64 (v+1)) (by omega)
       simp only [a1,c1,ob_s,List.length_append]
       rw [if_pos (by omega),if_pos (by omega),if_pos (by omega),if_pos (by omega),if_pos (by omega),if_pos (by omega),if_pos (by simp;omega)]
       exact ih _ (by omega) (by omega) (by simp;omega) (((hk.mono (by omega)).take _).app (by show (a++sg++c).length≤_;simp;omega))
      ·rw [if_neg h3]
       obtain ⟨a,a1,a2⟩:=qcz (st.getD (st.length-2) (Ty.dflt ty210)).1 (st.getD (st.length-2) (Ty.dflt ty210)).2 v (by omega)
       obtain ⟨c,c1,c2⟩:=qcz (st.getD (st.length-1) (Ty.dflt ty210)).1 (st.getD (st.length-1) (Ty.dflt ty210)).2 (IntKind.wrap IntKind.i64 (v+1)) (by omega)
       simp only [a1,c1,ob_s,List.length_append]
       rw [if_pos (by omega),if_pos (by omega),if_pos (by omega),if_pos (by omega),if_pos (by omega),if_pos (by omega),if_pos (by simp;omega)]
       exact ih _ (by omega) (by omega) (by simp;omega) (((hk.mono (by omega)).take _).app (by show (a++sg++c).length≤_;simp;omega))
theorem print_ok (e:List Trm) (h:shortE e) (hr:rightE e=true):∃ s,M145 e=some s∧s.length≤43000000000:=by
 show ∃ s,T145 Ops.std M110 M178 M161 M151 M179 e (prR e 1000000) some none=some s∧_
 unfold T145
 rw [h.right,ob_s,hr]
 simp only [Bool.not_true,cond_false]
 exact qgi e hr e.length 0 1000000 [] (by omega) (by have:=h.1;omega) (by simp) (fun x h=>by cases h)
theorem okEf.short {x:Eff} (h:okEf x):shortE x.2:=shortE.of h.2
theorem reff_loop (l:List Eff) (hl:l.length≤100000) (hk:∀ x∈l,okEf x):∀ (t i n:Nat),i+t=l.length→t<n→∃ b,R180 M58 M110 l n (.l0 i)=some b∧(b=true→l.length≤3)
 | t,i,0,hi,hn=>by omega
 | 0,i,n+1,hi,hn=>by
   show ∃ b,T180 Ops.std _ _ l _ some _=some b∧_
   unfold T180
   simp only [qam,qaz,qab]
   rw [if_neg (by omega)]
   exact ⟨_,rfl,fun h=>by simp at h;omega⟩
 | t+1,i,n+1,hi,hn=>by
   have ih:=reff_loop l hl hk t (i+1) n
   show ∃ b,T180 Ops.std _ _ l _ some _=some b∧_
   unfold T180
   have hw:IntKind.wrap IntKind.i64 ((i:Int)+1)=((i+1:Nat):Int):=qan (by omega)
   have hm:l.getD i (Ty.dflt ty157)∈l:=by
    rw [List.getD_eq_getElem?_getD,List.getElem?_eq_getElem (by omega)];exact List.getElem_mem _
   have hx:=hk _ hm
   simp only [qam,qaq,qab,qak,hw]
   rw [if_pos (by omega),if_pos (by omega),qa9 _ (by have:=hx.1;omega),ob_s]
   cases isWordP (l.getD i (Ty.dflt ty157)).1 with
   | false=>exact ⟨false,rfl,fun h=>by cases h⟩
   | true=>
     simp only [Bool.not_true,cond_false]
     rw [if_pos (by omega),hx.short.right,ob_s,hx.2]
     simp only [Bool.not_true,cond_false]
     exact ih (by omega) (by omega)
theorem reff_ok (l:List Eff) (hl:l.length≤100000) (hk:∀ x∈l,okEf x):∃ b,M180 l=some b∧(b=true→l.length≤3):=by
 show ∃ b,T180 Ops.std M58 M110 l (R180 M58 M110 l 1000000) some none=some b∧_
 unfold T180
 exact reff_loop l hl hk l.length 0 1000000 (by omega) (by omega)
theorem peff_loop (l:List Eff) (h3:l.length≤3) (hk:∀ x∈l,okEf x):∀ (t i n:Nat) (s:List UInt8),i+t=l.length→t<n→s.length≤i*43000000100→∃ r,R181 M145 l n (.l0 s i)=some r∧r.length≤130000000000
 | t,i,0,s,hi,hn,hs=>by omega
 | 0,i,n+1,s,hi,hn,hs=>by
   show ∃ r,T181 Ops.std _ l _ some _=some r∧_
   unfold T181
   simp only [qam,qab]
   rw [if_neg (by omega)]
   exact ⟨_,rfl,by omega⟩
 | t+1,i,n+1,s,hi,hn,hs=>by
   have ih:=peff_loop l h3 hk t (i+1) n
   show ∃ r,T181 Ops.std _ l _ some _=some r∧_
   unfold T181
   have hw:IntKind.wrap IntKind.i64 ((i:Int)+1)=((i+1:Nat):Int):=qan (by omega)
   have hm:l.getD i (Ty.dflt ty157)∈l:=by
    rw [List.getD_eq_getElem?_getD,List.getElem?_eq_getElem (by omega)];exact List.getElem_mem _
   have hx:=hk _ hm
   have hx1:=hx.1
   obtain ⟨w,w1,w2⟩:=print_ok _ hx.short hx.2
   simp only [qam,qaq,qau,qab,qak,hw,w1,ob_s,List.length_append,List.length_cons,List.length_nil]
   rw [if_pos (by omega),if_pos (by omega),if_pos (by omega),if_pos (by omega),if_pos (by omega),if_pos (by omega),if_pos (by omega)]
   exact ih _ (by omega) (by omega) (by simp only [List.length_append,List.length_cons,List.length_nil];omega)
theorem peff_ok (l:List Eff) (h3:l.length≤3) (hk:∀ x∈l,okEf x):∃ r,M181 l=some r∧r.length≤130000000000:=by
 show ∃ r,T181 Ops.std M145 l (R181 M145 l 1000000) some none=some r∧_
 unfold T181
 exact peff_loop l h3 hk l.length 0 1000000 [] (by omega) (by omega) (by simp)
theorem printTrans_ok (id:Int) (a b c d:List UInt8) (g:List Trm) (ef:List Eff) (ha:a.length≤60000) (hb:b.length≤60000) (hc:c.length≤60000) (hd:d.length≤60000) (hg:shortE g) (hl:ef.length≤100000) (hk:∀ x∈ef,okEf x) :
  ∃ s,M150 id a b c d g ef=some s:=by
 show ∃ s,T150 Ops.std M106 M107 M58 M110 M180 M151 M145 M181 id a b c d g ef some=some s
 unfold T150
 obtain ⟨ch,ok,h1⟩:=qeb d (by omega)
 rw [h1,ob_s,id_ok,ob_s,qa9 a (by omega),qa9 b (by omega),qa9 c (by omega),hg.right]
 simp only [ob_s]
 by_cases hid:1≤id∧id≤999
 ·rw [decide_eq_true hid]
  simp only [Bool.not_true,cond_false]
  cases ok with
  | false=>exact ⟨_,rfl⟩
  | true=>
  cases isWordP a with
  | false=>exact ⟨_,rfl⟩
  | true=>
  cases isWordP b with
  | false=>exact ⟨_,rfl⟩
  | true=>
  cases isWordP c with
  | false=>exact ⟨_,rfl⟩
  | true=>
  cases hr:rightE g with
  | false=>exact ⟨_,rfl⟩
  | true=>
  obtain ⟨bb,e1,e2⟩:=reff_ok ef hl hk
  simp only [Bool.not_true,cond_false,e1,ob_s]
  cases hbb:bb with
  | false=>exact ⟨_,rfl⟩
  | true=>
  obtain ⟨w,w1,w2⟩:=qea id.toNat (by omega)
  rw [Int.toNat_of_nonneg (by omega)] at w1
  obtain ⟨u,u1,u2⟩:=print_ok g hg hr
  obtain ⟨z,z1,z2⟩:=peff_ok ef (e2 hbb) hk
  simp only [Bool.not_true,cond_false,w1,u1,z1,ob_s,qau,qab,List.length_append,List.length_cons,List.length_nil]
  cases d == mt UInt8 with
  | true=>
    simp only [cond_true]
    rw [if_pos (by omega),if_pos (by omega),if_pos (by omega),if_pos (by omega),if_pos (by omega),if_pos (by omega),if_pos (by omega),if_pos (by omega),if_pos (by omega),if_pos (by omega),if_pos (by omega)]
    exact ⟨_,rfl⟩
  | false=>
    simp only [cond_false]
    rw [if_pos (by omega),if_pos (by omega),if_pos (by omega),if_pos (by omega),if_pos (by omega),if_pos (by omega),if_pos (by omega),if_pos (by omega),if_pos (by omega),if_pos (by omega),if_pos (by omega)]
    exact ⟨_,rfl⟩
 ·rw [decide_eq_false hid]
  exact ⟨_,rfl⟩
abbrev Trn:=Int×List UInt8×List UInt8×List UInt8×List UInt8×List Trm×List Eff
def okTr (t:Trn):Prop:=t.2.1.length≤60000∧t.2.2.1.length≤60000∧t.2.2.2.1.length≤60000∧t.2.2.2.2.1.length≤60000∧shortE t.2.2.2.2.2.1∧t.2.2.2.2.2.2.length≤100000∧∀ x∈t.2.2.2.2.2.2,okEf x
theorem parseTrans_ok (s:List UInt8) (hs:s.length≤60000):∃ id a b c d g ef ok,M89 s=some (id,a,b,c,d,g,ef,ok)∧okTr (id,a,b,c,d,g,ef):=by
 show ∃ id a b c d g ef ok,T89 Ops.std M87 M147 M106 M90 M86 M148 M149 M150 s some=some (id,a,b,c,d,g,ef,ok)∧_
 unfold T89
 have bad:∃ id a b c d g ef ok,(some ((0:Int),([]:List UInt8),([]:List UInt8),([]:List UInt8),([]:List UInt8),([]:List Trm),([]:List Eff),false))=some (id,a,b,c,d,g,ef,ok)∧okTr (id,a,b,c,d,g,ef):=
  ⟨_,_,_,_,_,_,_,_,rfl,by simp,by simp,by simp,by simp,qb7,by simp,fun x h=>by cases h⟩
 obtain ⟨w,w1,w2,w3⟩:=words_ok s hs
 rw [w1,ob_s]
 simp only [qam,qaq,qas,qa2,qab,mt]
 by_cases h6:((w.length:Nat):Int)<6
 ·rw [if_pos h6];exact bad
 ·rw [if_neg h6,if_pos (by omega)]
  obtain ⟨n,ok,a1⟩:=qds (w.getD (Int.toNat 0) (Ty.dflt ty9)) false
  rw [a1,ob_s,if_pos (by omega),if_pos (by omega),if_pos (by omega),if_pos (by omega)]
  have g1:=w3.get (Int.toNat 1)
  have g2:=w3.get (Int.toNat 2)
  have g3:=w3.get (Int.toNat 3)
  have g4:=w3.get (Int.toNat 4)
  obtain ⟨r,r1,r2⟩:=skip_ok s hs 5 (by omega)
  have r1':M90 s 5=some r:=r1
  obtain ⟨l,l1,l2,l3,l4⟩:=cut_ok r (by omega) 59
  obtain ⟨e,x,g,p1,p2,p3⟩:=parse7_ok (l.getD (Int.toNat 0) (Ty.dflt ty9))
  obtain ⟨fine,ef,f1,f2,f3⟩:=effects_ok (List.drop (Int.toNat 1) (List.take l.length l)) (by simp;omega)
  have fin:∀ d:List UInt8,d.length≤60000→∃ s',M150 n (w.getD (Int.toNat 1) (Ty.dflt ty9)) (w.getD (Int.toNat 2) (Ty.dflt ty9)) (w.getD (Int.toNat 3) (Ty.dflt ty9)) d g ef=some s':=fun d hd=>
   printTrans_ok n _ _ _ d g ef (Nat.le_trans g1 hs) (Nat.le_trans g2 hs) (Nat.le_trans g3 hs) hd p2 (by simp at f2;omega) f3
  have good:∀ d:List UInt8,d.length≤60000→okTr (n,w.getD (Int.toNat 1) (Ty.dflt ty9),w.getD (Int.toNat 2) (Ty.dflt ty9),w.getD (Int.toNat 3) (Ty.dflt ty9),d,g,ef):=fun d hd=>
   ⟨Nat.le_trans g1 hs,Nat.le_trans g2 hs,Nat.le_trans g3 hs,hd,p2,by simp at f2;show ef.length≤100000;omega,f3⟩
  cases w.getD (Int.toNat 4) (Ty.dflt ty9) == ([45]:List UInt8) with
  | true=>
    simp only [cond_true]
    rw [r1',ob_s,l1,ob_s,if_pos (by omega),p1,ob_s,if_pos (by omega),f1,ob_s]
    dsimp only
    cases ok with
    | false=>exact bad
    | true=>
      simp only [Bool.not_true,cond_false]
      by_cases he:e=0
      ·rw [if_neg (fun h=>h he)]
       cases fine with
       | false=>exact bad
       | true=>
         simp only [Bool.not_true,cond_false]
         obtain ⟨s',q1⟩:=fin [] (by simp)
         rw [q1,ob_s]
         cases s' == ([]:List UInt8) with
         | true=>exact bad
         | false=>exact ⟨_,_,_,_,_,_,_,_,rfl,good [] (by simp)⟩
      ·rw [if_pos he];exact bad
  | false=>
    simp only [cond_false]
    obtain ⟨ch,cok,c1⟩:=qeb (w.getD (Int.toNat 4) (Ty.dflt ty9)) (by have:(w.getD (Int.toNat 4) (Ty.dflt ty9)).length≤s.length:=g4;omega)
    rw [c1,ob_s]
    dsimp only
    cases cok with
    | false=>exact bad
    | true=>
    simp only [Bool.not_true,cond_false]
    rw [r1',ob_s,l1,ob_s,if_pos (by omega),p1,ob_s,if_pos (by omega),f1,ob_s]
    dsimp only
    cases ok with
    | false=>exact bad
    | true=>
      simp only [Bool.not_true,cond_false]
      by_cases he:e=0
      ·rw [if_neg (fun h=>h he)]
       cases fine with
       | false=>exact bad
       | true=>
         simp only [Bool.not_true,cond_false]
         obtain ⟨s',q1⟩:=fin (w.getD (Int.toNat 4) (Ty.dflt ty9)) (Nat.le_trans g4 hs)
         rw [q1,ob_s]
         cases s' == ([]:List UInt8) with
         | true=>exact bad
         | false=>exact ⟨_,_,_,_,_,_,_,_,rfl,good _ (Nat.le_trans g4 hs)⟩
      ·rw [if_pos he];exact bad
abbrev Vrb:=List UInt8×Int×Int×Int
abbrev Pcs:=List UInt8×List (List UInt8)
section
variable (vs:List Vrb) (ps:List Pcs) (ts:List Trn)
theorem qeu (hp:ps.length≤100000) (s:List UInt8):∀ (t i n:Nat),i+t=ps.length→t<n→∃ r,R105 vs ps ts s n (.l0 i)=some r∧(r = -1∨∃ k:Nat,k<ps.length∧r=(k:Int))
 | t,i,0,hi,hn=>by omega
 | 0,i,n+1,hi,hn=>by
   show ∃ r,T105 Ops.std vs ps ts s _ some _=some r∧_
   unfold T105
   simp only [qam,qab]
   rw [if_neg (by omega)]
   exact ⟨_,rfl,.inl rfl⟩
 | t+1,i,n+1,hi,hn=>by
   have ih:=qeu hp s t (i+1) n (by omega) (by omega)
   show ∃ r,T105 Ops.std vs ps ts s _ some _=some r∧_
   unfold T105
   simp only [qam,qaq,qab,qak,show IntKind.wrap IntKind.i64 ((i:Int)+1)=((i+1:Nat):Int) from qan (by omega)]
   rw [if_pos (by omega),if_pos (by omega)]
   cases (ps.getD i (Ty.dflt ty98)).1 == s with
   | true=>exact ⟨_,rfl,.inr ⟨i,by omega,rfl⟩⟩
   | false=>exact ih
theorem qgj (hp:ps.length≤100000) (s:List UInt8):∃ r,M105 vs ps ts s=some r∧(r = -1∨∃ k:Nat,k<ps.length∧r=(k:Int)):=by
 show ∃ r,T105 Ops.std vs ps ts s (R105 vs ps ts s 1000000) some none=some r∧_
 unfold T105
 exact qeu vs ps ts hp s ps.length 0 1000000 (by omega) (by omega)
theorem qdt (hv:vs.length≤100000) (s:List UInt8):∀ (t i n:Nat),i+t=vs.length→t<n→∃ r,R109 vs ps ts s n (.l0 i)=some r∧(r = -1∨∃ k:Nat,k<vs.length∧r=(k:Int))
 | t,i,0,hi,hn=>by omega
 | 0,i,n+1,hi,hn=>by
   show ∃ r,T109 Ops.std vs ps ts s _ some _=some r∧_
   unfold T109
   simp only [qam,qab]
   rw [if_neg (by omega)]
   exact ⟨_,rfl,.inl rfl⟩
 | t+1,i,n+1,hi,hn=>by
   have ih:=qdt hv s t (i+1) n (by omega) (by omega)
   show ∃ r,T109 Ops.std vs ps ts s _ some _=some r∧_
   unfold T109
   simp only [qam,qaq,qab,qak,show IntKind.wrap IntKind.i64 ((i:Int)+1)=((i+1:Nat):Int) from qan (by omega)]
   rw [if_pos (by omega),if_pos (by omega)]
   cases (vs.getD i (Ty.dflt ty94)).1 == s with
   | true=>exact ⟨_,rfl,.inr ⟨i,by omega,rfl⟩⟩
   | false=>exact ih
theorem qfs (hv:vs.length≤100000) (s:List UInt8):∃ r,M109 vs ps ts s=some r∧(r = -1∨∃ k:Nat,k<vs.length∧r=(k:Int)):=by
 show ∃ r,T109 Ops.std vs ps ts s (R109 vs ps ts s 1000000) some none=some r∧_
 unfold T109
 exact qdt vs ps ts hv s vs.length 0 1000000 (by omega) (by omega)
def okLocs (ps:List Pcs):Prop:=∀ p∈ps,p.2.length≤100000
theorem okLocs.get {ps:List Pcs} (h:okLocs ps) (k:Nat) (hk:k<ps.length):(ps.getD k (Ty.dflt ty98)).2.length≤100000:=by
 rw [List.getD_eq_getElem?_getD,List.getElem?_eq_getElem hk];exact h _ (List.getElem_mem hk)
theorem qgk (hl:okLocs ps) (p:Nat) (hp:p<ps.length) (s:List UInt8):∀ (t i n:Nat),i+t=(ps.getD p (Ty.dflt ty98)).2.length→t<n→∃ r,R108 vs ps ts p s n (.l0 i)=some r∧(r = -1∨∃ k:Nat,k<(ps.getD p (Ty.dflt ty98)).2.length∧r=(k:Int))
 | t,i,0,hi,hn=>by omega
 | 0,i,n+1,hi,hn=>by
   show ∃ r,T108 Ops.std vs ps ts p s _ some _=some r∧_
   unfold T108
   simp only [qam,qaq,qab,qak]
   rw [if_pos (by omega),if_neg (by omega)]
   exact ⟨_,rfl,.inl rfl⟩
 | t+1,i,n+1,hi,hn=>by
   have ih:=qgk hl p hp s t (i+1) n (by omega) (by omega)
   have hg:=hl.get p hp
   show ∃ r,T108 Ops.std vs ps ts p s _ some _=some r∧_
   unfold T108
   simp only [qam,qaq,qab,qak,show IntKind.wrap IntKind.i64 ((i:Int)+1)=((i+1:Nat):Int) from qan (by omega)]
   rw [if_pos (by omega),if_pos (by omega),if_pos (by omega),if_pos (by omega)]
   generalize ((ps.getD p (Ty.dflt ty98)).2.getD i (Ty.dflt Ty.str) == s)=b
   cases b with
   | true=>exact ⟨_,rfl,.inr ⟨i,by omega,rfl⟩⟩
   | false=>exact ih
theorem place_ok (hl:okLocs ps) (p:Int) (hp:p = -1∨∃ k:Nat,k<ps.length∧p=(k:Int)) (s:List UInt8):∃ r,M108 vs ps ts p s=some r∧(0≤r→∃ q:Nat,q<ps.length∧p=(q:Int)):=by
 show ∃ r,T108 Ops.std vs ps ts p s (R108 vs ps ts p s 1000000) some none=some r∧_
 unfold T108
 simp only [qam,qab]
 rcases hp with rfl | ⟨k,hk,rfl⟩
 ·rw [if_pos (by decide)];exact ⟨_,rfl,fun h=>by omega⟩
 ·rw [if_neg (by omega)]
  obtain ⟨r,h1,h2⟩:=qgk vs ps ts hl k hk s (ps.getD k (Ty.dflt ty98)).2.length 0 1000000 (by omega) (by have:=hl.get k hk;omega)
  exact ⟨r,h1,fun _=>⟨k,hk,rfl⟩⟩
structure smallG:Prop where
 v:vs.length≤100000
 p:ps.length≤100000
 l:okLocs ps
variable {vs ps}
def knE (vs:List Vrb) (ps:List Pcs) (ts:List Trn) (t:Trm):Prop:=
 (t.1=2→∃ k:Nat,k<vs.length∧M109 vs ps ts t.2.2.1=some (k:Int))∧
 (t.1=3→∃ (q:Nat) (r:Int),q<ps.length∧M105 vs ps ts t.2.2.1=some (q:Int)∧M108 vs ps ts (q:Int) t.2.2.2=some r)
theorem qgl (hg:smallG vs ps) (e:List Trm) (he:shortE e):∀ (t i n:Nat),i+t=e.length→t<n→(∀ x∈e.take i,knE vs ps ts x)→∃ b,R62 M109 M105 M108 M110 vs ps ts e n (.l0 i)=some b∧(b=true→rightE e=true∧∀ x∈e,knE vs ps ts x)
 | t,i,0,hi,hn,hk=>by omega
 | 0,i,n+1,hi,hn,hk=>by
   show ∃ b,T62 Ops.std _ _ _ _ vs ps ts e _ some _=some b∧_
   unfold T62
   simp only [qam,qab]
   rw [if_neg (by omega),he.right,ob_s]
   refine ⟨_,rfl,fun h=>⟨h,?_⟩⟩
   rwa [List.take_of_length_le (by omega)] at hk
 | t+1,i,n+1,hi,hn,hk=>by
   have ih:=qgl hg e he t (i+1) n (by omega) (by omega)
   have h30:=he.1
   obtain ⟨x,hx⟩:∃ x,e.getD i (Ty.dflt ty150)=x:=⟨_,rfl⟩
   have htk:e.take (i+1)=e.take i++[x]:=by
    rw [List.take_succ_eq_append_getElem (by omega)]
    rw [List.getD_eq_getElem?_getD,List.getElem?_eq_getElem (by omega)] at hx
    rw [←hx];rfl
   have nxt:knE vs ps ts x→∀ y∈e.take (i+1),knE vs ps ts y:=fun h y hy=>by
    rw [htk] at hy
    rcases List.mem_append.1 hy with hy | hy
    ·exact hk y hy
    ·simp only [List.mem_singleton] at hy;rw [hy];exact h
   show ∃ b,T62 Ops.std _ _ _ _ vs ps ts e _ some _=some b∧_
   unfold T62
   simp only [qam,qaq,qas,qab,qak,hx,show IntKind.wrap IntKind.i64 ((i:Int)+1)=((i+1:Nat):Int) from qan (by omega)]
   rw [if_pos (by omega),if_pos (by omega)]
   obtain ⟨r,r1,r2⟩:=qfs vs ps ts hg.v x.2.2.1
   obtain ⟨q,q1,q2⟩:=qgj vs ps ts hg.p x.2.2.1
   obtain ⟨z,z1,z2⟩:=place_ok vs ps ts hg.l q q2 x.2.2.2
   by_cases h2:x.1=2
   ·rw [if_pos h2,if_pos (by omega),r1,ob_s]
    by_cases hr:r<0
    ·rw [if_pos hr];exact ⟨_,rfl,fun h=>by cases h⟩
    ·rw [if_neg hr,if_pos (by omega),if_neg (by omega)]
     refine ih (nxt ⟨fun _=>?_,fun h=>by omega⟩)
     rcases r2 with rfl | ⟨k,hk1,rfl⟩
     ·omega
     ·exact ⟨k,hk1,r1⟩
   ·rw [if_neg h2,if_pos (by omega)]
    by_cases h3:x.1=3
    ·rw [if_pos h3,if_pos (by omega),if_pos (by omega),q1,ob_s,z1,ob_s]
     by_cases hz:z<0
     ·rw [if_pos hz];exact ⟨_,rfl,fun h=>by cases h⟩
     ·rw [if_neg hz]
      obtain ⟨q',hq',rfl⟩:=z2 (by omega)
      exact ih (nxt ⟨fun h=>by omega,fun _=>⟨q',z,hq',q1,z1⟩⟩)
    ·rw [if_neg h3]
     exact ih (nxt ⟨fun h=>absurd h h2,fun h=>absurd h h3⟩)
theorem qe3 (hg:smallG vs ps) (e:List Trm) (he:shortE e):∃ b,M62 vs ps ts e=some b∧(b=true→rightE e=true∧∀ x∈e,knE vs ps ts x):=by
 show ∃ b,T62 Ops.std M109 M105 M108 M110 vs ps ts e (R62 M109 M105 M108 M110 vs ps ts e 1000000) some none=some b∧_
 unfold T62
 exact qgl ts hg e he e.length 0 1000000 (by omega) (by have:=he.1;omega) (fun x h=>by simp at h)
end
theorem qec (l:List (List UInt8)) (hl:l.length≤6):∀ (f i j n:Nat),10*(l.length-i)+(l.length-j)+1≤f→f≤n→i≤l.length→j≤i→i<l.length→∃ b,R60 l n (.l1 i j)=some b
 | f,i,j,0,hf,hn,hi,hj,hil=>by omega
 | f,i,j,n+1,hf,hn,hi,hj,hil=>by
   show ∃ b,T60 Ops.std l _ some _=some b
   unfold T60
   simp only [qam,qaq,qab,qak,show IntKind.wrap IntKind.i64 ((i:Int)+1)=((i+1:Nat):Int) from qan (by omega),show IntKind.wrap IntKind.i64 ((j:Int)+1)=((j+1:Nat):Int) from qan (by omega)]
   by_cases h:j<i
   ·rw [if_pos (by omega),if_pos (by omega),if_pos (by omega)]
    generalize (l.getD i (Ty.dflt ty9) == l.getD j (Ty.dflt ty9))=b
    cases b with
    | true=>exact ⟨_,rfl⟩
    | false=>exact qec l hl (f-1) i (j+1) n (by omega) (by omega) hi (by omega) hil
   ·rw [if_neg (by omega)]
    obtain ⟨m,rfl⟩:∃ m,n=m+1:=⟨n-1,by omega⟩
    show ∃ b,T60 Ops.std l _ some _=some b
    unfold T60
    simp only [qam,qab]
    by_cases h2:i+1<l.length
    ·rw [if_pos (by omega)]
     exact qec l hl (f-2) (i+1) 0 m (by omega) (by omega) (by omega) (by omega) h2
    ·rw [if_neg (by omega)];exact ⟨_,rfl⟩
theorem twice_ok (l:List (List UInt8)) (hl:l.length≤6):∃ b,M60 l=some b:=by
 show ∃ b,T60 Ops.std l (R60 l 1000000) some none=some b
 unfold T60
 show ∃ b,T60 Ops.std l (R60 l 999999) some _=some b
 unfold T60
 simp only [qam,qab]
 by_cases h:0<l.length
 ·rw [if_pos (by omega)]
  exact qec l hl 100 0 0 999999 (by omega) (by omega) (by omega) (by omega) h
 ·rw [if_neg (by omega)];exact ⟨_,rfl⟩
theorem take_ext {α:Type} {P:α→Prop} {l:List α} {i:Nat} (hi:i<l.length) (d:α) (h:∀ x∈l.take i,P x) (hx:P (l.getD i d)):∀ x∈l.take (i+1),P x:=by
 intro x hm
 rw [List.take_succ_eq_append_getElem hi] at hm
 rcases List.mem_append.1 hm with hm | hm
 ·exact h x hm
 ·simp only [List.mem_singleton] at hm
  rw [hm]
  rw [List.getD_eq_getElem?_getD,List.getElem?_eq_getElem hi] at hx
  exact hx
theorem qbk {α:Type} {l:List α} {i:Nat} (hi:i<l.length) (d:α):l.getD i d∈l:=by
 rw [List.getD_eq_getElem?_getD,List.getElem?_eq_getElem hi];exact List.getElem_mem hi
structure smallM (vs:List Vrb) (ps:List Pcs) (ts:List Trn):Prop where
 vl:vs.length≤5001
 v:∀ v∈vs,v.1.length≤60000
 pl:ps.length≤5001
 p:∀ p∈ps,p.1.length≤60000∧p.2.length≤60001∧okL 60000 p.2
 tl:ts.length≤5001
 t:∀ t∈ts,okTr t
theorem smallM.g {vs:List Vrb} {ps:List Pcs} {ts:List Trn} (h:smallM vs ps ts):smallG vs ps:=⟨by have:=h.vl;omega,by have:=h.pl;omega,fun p hp=>by have:=(h.p p hp).2.1;omega⟩
def okVar (v:Vrb):Prop:=v.2.1≤v.2.2.2∧v.2.2.2≤v.2.2.1∧-999≤v.2.1∧v.2.2.1≤999
structure goodM (vs:List Vrb) (ps:List Pcs):Prop where
 vl:vs.length≤4
 v:∀ v∈vs,okVar v
 p0:1≤ps.length
 pl:ps.length≤3
 p:∀ p∈ps,1≤p.2.length∧p.2.length≤6
section
variable {vs:List Vrb} {ps:List Pcs} {ts:List Trn} (hM:smallM vs ps ts)
noncomputable abbrev rtR (vs:List Vrb) (ps:List Pcs) (ts:List Trn) (id:Int) (a b c d:List UInt8) (g:List Trm) (ef:List Eff):=R61 M105 M106 M107 M108 M62 M109 vs ps ts id a b c d g ef
include hM in
theorem rt_loop (id:Int) (a b c d:List UInt8) (g:List Trm) (ef:List Eff) (hl:ef.length≤3) (hk:∀ x∈ef,okEf x):∀ (t i n:Nat),i+t=ef.length→t<n→∃ r,rtR vs ps ts id a b c d g ef n (.l0 i)=some r
 | t,i,0,hi,hn=>by omega
 | 0,i,n+1,hi,hn=>by
   show ∃ r,T61 Ops.std _ _ _ _ _ _ vs ps ts id a b c d g ef _ some _=some r
   unfold T61
   simp only [qam,qab]
   rw [if_neg (by omega)]
   exact ⟨_,rfl⟩
 | t+1,i,n+1,hi,hn=>by
   have ih:=rt_loop id a b c d g ef hl hk t (i+1) n (by omega) (by omega)
   have hx:=hk _ (qbk (show i<ef.length by omega) (Ty.dflt ty157))
   show ∃ r,T61 Ops.std _ _ _ _ _ _ vs ps ts id a b c d g ef _ some _=some r
   unfold T61
   obtain ⟨r,r1,_⟩:=qfs vs ps ts hM.g.v (ef.getD i (Ty.dflt ty157)).1
   obtain ⟨q,q1,_⟩:=qe3 ts hM.g (ef.getD i (Ty.dflt ty157)).2 hx.short
   simp only [qam,qaq,qab,qak,r1,q1,ob_s,show IntKind.wrap IntKind.i64 ((i:Int)+1)=((i+1:Nat):Int) from qan (by omega)]
   rw [if_pos (by omega),if_pos (by omega)]
   by_cases hr:r<0
   ·rw [if_pos hr];exact ⟨_,rfl⟩
   ·rw [if_neg hr,if_pos (by omega)]
    cases q with
    | false=>exact ⟨_,rfl⟩
    | true=>exact ih
include hM in
theorem rt_ok (t:Trn) (ht:okTr t):∃ r,M61 vs ps ts t.1 t.2.1 t.2.2.1 t.2.2.2.1 t.2.2.2.2.1 t.2.2.2.2.2.1 t.2.2.2.2.2.2=some r:=by
 obtain ⟨id,a,b,c,d,g,ef⟩:=t
 obtain ⟨h1,h2,h3,h4,h5,h6,h7⟩:=ht
 show ∃ r,T61 Ops.std M105 M106 M107 M108 M62 M109 vs ps ts id a b c d g ef (rtR vs ps ts id a b c d g ef 1000000) some none=some r
 unfold T61
 obtain ⟨p,p1,p2⟩:=qgj vs ps ts hM.g.p a
 obtain ⟨ch,ok,c1⟩:=qeb d (by simp only at h4;omega)
 obtain ⟨x,x1,_⟩:=place_ok vs ps ts hM.g.l p p2 b
 obtain ⟨y,y1,_⟩:=place_ok vs ps ts hM.g.l p p2 c
 obtain ⟨q,q1,_⟩:=qe3 ts hM.g g h5
 simp only [p1,c1,id_ok,x1,y1,q1,ob_s,qam,qab]
 cases decide (1≤id∧id≤999) with
 | false=>exact ⟨_,rfl⟩
 | true=>
 cases ok with
 | false=>exact ⟨_,rfl⟩
 | true=>
 simp only [Bool.not_true,cond_false]
 by_cases hx:x<0
 ·rw [if_pos hx];exact ⟨_,rfl⟩
 ·rw [if_neg hx]
  by_cases hy:y<0
  ·rw [if_pos hy];exact ⟨_,rfl⟩
  ·rw [if_neg hy]
   cases q with
   | false=>exact ⟨_,rfl⟩
   | true=>
   simp only [Bool.not_true,cond_false]
   by_cases h3:(3:Int)<((ef.length:Nat):Int)
   ·rw [if_pos h3];exact ⟨_,rfl⟩
   ·rw [if_neg h3]
    exact rt_loop hM id a b c d g ef (by omega) h7 ef.length 0 1000000 (by omega) (by omega)
noncomputable abbrev rmR (vs:List Vrb) (ps:List Pcs) (ts:List Trn):=R18 M58 M59 M60 M61 vs ps ts
include hM in
theorem rm_l3 (h16:ts.length≤16):∀ (t i n:Nat),i+t=ts.length→2*t<n→∃ r,rmR vs ps ts n (.l3 i)=some r
 | t,i,0,hi,hn=>by omega
 | 0,i,n+1,hi,hn=>by
   show ∃ r,T18 Ops.std _ _ _ _ vs ps ts _ some _=some r
   unfold T18
   simp only [qam,qab]
   rw [if_neg (by omega)]
   exact ⟨_,rfl⟩
 | t+1,i,n+1,hi,hn=>by
   obtain ⟨m,rfl⟩:∃ m,n=m+1:=⟨n-1,by omega⟩
   have ih:=rm_l3 h16 t (i+1) m (by omega) (by omega)
   have h25:rmR vs ps ts (m+1) (.l1025 i)=rmR vs ps ts m (.l3 ((i+1:Nat):Int)):=by
    show T18 Ops.std _ _ _ _ vs ps ts _ some _=_
    unfold T18
    simp only [show IntKind.wrap IntKind.i64 ((i:Int)+1)=((i+1:Nat):Int) from qan (by omega)]
   obtain ⟨r,r1⟩:=rt_ok hM (ts.getD i (Ty.dflt ty103)) (hM.t _ (qbk (by omega) _))
   show ∃ r,T18 Ops.std _ _ _ _ vs ps ts _ some _=some r
   unfold T18
   simp only [qam,qaz,qaq,qab,qak,r1,ob_s]
   rw [if_pos (by omega),if_pos (by omega)]
   cases r with
   | false=>exact ⟨_,rfl⟩
   | true=>
   simp only [Bool.not_true,cond_false]
   by_cases h0:(0:Int)<(i:Int)
   ·rw [if_pos h0,if_pos (by omega),show IntKind.wrap IntKind.i64 ((i:Int)-1)=((i-1:Nat):Int) by rw [wrap64 (by omega) (by omega)];omega,if_pos (by omega)]
    split
    ·exact ⟨_,rfl⟩
    ·obtain ⟨r,hr⟩:=ih;exact ⟨r,h25.trans hr⟩
   ·rw [if_neg h0];obtain ⟨r,hr⟩:=ih;exact ⟨r,h25.trans hr⟩
theorem rm_l2 (Q:Bool→Prop) (hQ:Q false) (i:Nat) (hi:i<100000) (vn pn:List (List UInt8)) (nm:List UInt8) (locs:List (List UInt8)) (hl:locs.length≤6) (hk:okL 60000 locs) (N:Nat) (hc:∀ m,N≤m→∃ r,rmR vs ps ts m (.l1 ((i+1:Nat):Int) vn pn)=some r∧Q r) :
  ∀ (t j n:Nat),j+t=locs.length→N+t<n→∃ r,rmR vs ps ts n (.l2 i j vn pn nm locs)=some r∧Q r
 | t,j,0,hj,hn=>by omega
 | 0,j,n+1,hj,hn=>by
   show ∃ r,T18 Ops.std _ _ _ _ vs ps ts _ some _=some r∧_
   unfold T18
   simp only [qam,qab,show IntKind.wrap IntKind.i64 ((i:Int)+1)=((i+1:Nat):Int) from qan (by omega)]
   rw [if_neg (by omega)]
   exact hc n (by omega)
 | t+1,j,n+1,hj,hn=>by
   have ih:=rm_l2 Q hQ i hi vn pn nm locs hl hk N hc t (j+1) n (by omega) (by omega)
   show ∃ r,T18 Ops.std _ _ _ _ vs ps ts _ some _=some r∧_
   unfold T18
   have hlen:=hk.get j
   simp only [qam,qaq,qab,qak,show IntKind.wrap IntKind.i64 ((j:Int)+1)=((j+1:Nat):Int) from qan (by omega)]
   rw [if_pos (by omega),if_pos (by omega),qa9 _ (by have:(locs.getD j (Ty.dflt ty9)).length≤60000:=hlen;omega),ob_s]
   cases isWordP (locs.getD j (Ty.dflt ty9)) with
   | false=>exact ⟨false,rfl,hQ⟩
   | true=>exact ih
include hM in
theorem rm_l1 (hv:vs.length≤4→∀ v∈vs,okVar v):∀ (t i n:Nat) (vn pn:List (List UInt8)),i+t=ps.length→12*t+100<n→vn.length=vs.length→pn.length=i→(∀ p∈ps.take i,1≤p.2.length∧p.2.length≤6)→∃ r,rmR vs ps ts n (.l1 i vn pn)=some r∧(r=true→goodM vs ps)
 | t,i,0,vn,pn,hi,hn,h1,h2,hk=>by omega
 | 0,i,n+1,vn,pn,hi,hn,h1,h2,hk=>by
   show ∃ r,T18 Ops.std _ _ _ _ vs ps ts _ some _=some r∧_
   unfold T18
   simp only [qam,qab]
   rw [if_neg (by omega)]
   have bad:∃ r:Bool,(some false:Option Bool)=some r∧(r=true→goodM vs ps):=⟨false,rfl,fun h=>by cases h⟩
   by_cases c1:(4:Int)<((vn.length:Nat):Int)
   ·rw [if_pos c1];exact bad
   ·rw [if_neg c1]
    by_cases c2:((pn.length:Nat):Int)<1
    ·rw [if_pos c2];exact bad
    ·rw [if_neg c2]
     by_cases c3:(3:Int)<((pn.length:Nat):Int)
     ·rw [if_pos c3];exact bad
     ·rw [if_neg c3]
      by_cases c4:(16:Int)<((ts.length:Nat):Int)
      ·rw [if_pos c4];exact bad
      ·rw [if_neg c4]
       obtain ⟨x,x1⟩:=twice_ok vn (by omega)
       obtain ⟨y,y1⟩:=twice_ok pn (by omega)
       rw [x1,ob_s]
       cases x with
       | true=>exact bad
       | false=>
       simp only [cond_false]
       rw [y1,ob_s]
       cases y with
       | true=>exact bad
       | false=>
       simp only [cond_false]
       obtain ⟨m,rfl⟩:∃ m,n=m+1:=⟨n-1,by omega⟩
       have h23:rmR vs ps ts (m+1) .l1023=rmR vs ps ts m (.l3 0):=rfl
       obtain ⟨r,r1⟩:=rm_l3 hM (by omega) ts.length 0 m (by omega) (by omega)
       refine ⟨r,h23.trans r1,fun _=>⟨by omega,hv (by omega),by omega,by omega,?_⟩⟩
       rwa [List.take_of_length_le (by omega)] at hk
 | t+1,i,n+1,vn,pn,hi,hn,h1,h2,hk=>by
   have hpl:=hM.pl
   have hx:=hM.p _ (qbk (show i<ps.length by omega) (Ty.dflt ty98))
   have bad:∃ r:Bool,(some false:Option Bool)=some r∧(r=true→goodM vs ps):=⟨false,rfl,fun h=>by cases h⟩
   show ∃ r,T18 Ops.std _ _ _ _ vs ps ts _ some _=some r∧_
   unfold T18
   simp only [qam,qaq,qau,qab,qak,mt,List.length_cons,List.length_nil]
   rw [if_pos (by omega),if_pos (by omega),if_pos (by omega),qa9 _ (by have:=hx.1;omega),ob_s]
   cases isWordP (ps.getD i (Ty.dflt ty98)).1 with
   | false=>exact bad
   | true=>
   simp only [Bool.not_true,cond_false]
   by_cases c1:(((ps.getD i (Ty.dflt ty98)).2.length:Nat):Int)<1
   ·rw [if_pos c1];exact bad
   ·rw [if_neg c1]
    by_cases c2:(6:Int)<(((ps.getD i (Ty.dflt ty98)).2.length:Nat):Int)
    ·rw [if_pos c2];exact bad
    ·rw [if_neg c2]
     obtain ⟨x,x1⟩:=twice_ok (ps.getD i (Ty.dflt ty98)).2 (by omega)
     rw [x1,ob_s]
     cases x with
     | true=>exact bad
     | false=>
     simp only [cond_false]
     obtain ⟨m,rfl⟩:∃ m,n=m+1:=⟨n-1,by omega⟩
     have h16:∀ vn pn nm locs,rmR vs ps ts (m+1) (.l1016 i vn pn nm locs)=rmR vs ps ts m (.l2 i 0 vn pn nm locs):=fun _ _ _ _=>rfl
     obtain ⟨r,r1,r2⟩:=rm_l2 (ts:=ts) (fun r=>r=true→goodM vs ps) (fun h=>by cases h) i (by omega) vn (pn++[(ps.getD i (Ty.dflt ty98)).1]) (ps.getD i (Ty.dflt ty98)).1 (ps.getD i (Ty.dflt ty98)).2 (by omega) hx.2.2 (12*t+101)
      (fun k hkk=>rm_l1 hv t (i+1) k vn (pn++[(ps.getD i (Ty.dflt ty98)).1]) (by omega) (by omega) h1 (by simp;omega) (take_ext (by omega) (Ty.dflt ty98) hk ⟨by omega,by omega⟩)) _ 0 m (Nat.zero_add _) (by omega)
     exact ⟨r,(h16 _ _ _ _).trans r1,r2⟩
include hM in
theorem rm_l0:∀ (t i n:Nat) (vn:List (List UInt8)),i+t=vs.length→2*t+70000<n→vn.length=i→(∀ v∈vs.take i,okVar v)→∃ r,rmR vs ps ts n (.l0 i vn)=some r∧(r=true→goodM vs ps)
 | t,i,0,vn,hi,hn,h1,hk=>by omega
 | 0,i,n+1,vn,hi,hn,h1,hk=>by
   have hpl:=hM.pl
   show ∃ r,T18 Ops.std _ _ _ _ vs ps ts _ some _=some r∧_
   unfold T18
   simp only [qam,qab]
   rw [if_neg (by omega)]
   rw [List.take_of_length_le (by omega)] at hk
   exact rm_l1 hM (fun _=>hk) ps.length 0 n vn [] (by omega) (by omega) (by omega) rfl (fun p h=>by simp at h)
 | t+1,i,n+1,vn,hi,hn,h1,hk=>by
   have hvl:=hM.vl
   obtain ⟨m,rfl⟩:∃ m,n=m+1:=⟨n-1,by omega⟩
   have h04:∀ vn,rmR vs ps ts (m+1) (.l1004 i vn)=rmR vs ps ts m (.l0 ((i+1:Nat):Int) vn):=fun vn=>by
    show T18 Ops.std _ _ _ _ vs ps ts _ some _=_
    unfold T18
    simp only [show IntKind.wrap IntKind.i64 ((i:Int)+1)=((i+1:Nat):Int) from qan (by omega)]
   have hx:=hM.v _ (qbk (show i<vs.length by omega) (Ty.dflt ty94))
   have bad:∃ r:Bool,(some false:Option Bool)=some r∧(r=true→goodM vs ps):=⟨false,rfl,fun h=>by cases h⟩
   have ih:=rm_l0 t (i+1) m
   show ∃ r,T18 Ops.std _ _ _ _ vs ps ts _ some _=some r∧_
   unfold T18
   obtain ⟨x,hxe⟩:∃ x,vs.getD i (Ty.dflt ty94)=x:=⟨_,rfl⟩
   rw [hxe] at hx
   simp only [qam,qaq,qau,qab,qak,mt,List.length_cons,List.length_nil,hxe,w999_ok,ob_s]
   rw [if_pos (by omega),if_pos (by omega),if_pos (by omega),qa9 _ (by omega),ob_s]
   cases isWordP x.1 with
   | false=>exact bad
   | true=>
   simp only [Bool.not_true,cond_false,qa2,qab]
   by_cases c1:x.2.2.2<x.2.1
   ·rw [if_pos c1];exact bad
   ·rw [if_neg c1]
    by_cases c2:x.2.2.1<x.2.2.2
    ·rw [if_pos c2];exact bad
    ·rw [if_neg c2]
     by_cases c3:-999≤x.2.1∧x.2.1≤999
     ·rw [if_neg (fun h=>h c3)]
      by_cases c4:-999≤x.2.2.1∧x.2.2.1≤999
      ·rw [if_neg (fun h=>h c4)]
       obtain ⟨r,r1,r2⟩:=ih (vn++[x.1]) (by omega) (by omega) (by simp;omega) (take_ext (by omega) (Ty.dflt ty94) hk (by rw [hxe];exact ⟨by omega,by omega,c3.1,c4.2⟩))
       exact ⟨r,(h04 _).trans r1,r2⟩
      ·rw [if_pos c4];exact bad
     ·rw [if_pos c3];exact bad
include hM in
theorem qdu:∃ r,M18 vs ps ts=some r∧(r=true→goodM vs ps):=by
 have hvl:=hM.vl
 show ∃ r,T18 Ops.std M58 M59 M60 M61 vs ps ts (rmR vs ps ts 1000000) some none=some r∧_
 unfold T18
 exact rm_l0 hM vs.length 0 1000000 [] (by omega) (by omega) rfl (fun v h=>by simp at h)
end
theorem qgm:smallM [] [] []:=⟨by simp,fun v h=>(by cases h),by simp,fun v h=>(by cases h),by simp,fun v h=>by cases h⟩
noncomputable abbrev pmR (s:List UInt8):=R47 M86 M87 M88 M90 M89 M18 s
structure soFar (vs:List Vrb) (ps:List Pcs) (ts:List Trn) (i:Nat):Prop where
 vl:vs.length≤i
 v:∀ v∈vs,v.1.length≤60000
 pl:ps.length≤i
 p:∀ p∈ps,p.1.length≤60000∧p.2.length≤60001∧okL 60000 p.2
 tl:ts.length≤i
 t:∀ t∈ts,okTr t
theorem mem_app {α:Type} {P:α→Prop} {l:List α} {x:α} (h:∀ y∈l,P y) (hx:P x):∀ y∈l++[x],P y:=fun y hy=>by
 rcases List.mem_append.1 hy with hy | hy
 ·exact h y hy
 ·simp only [List.mem_singleton] at hy;rw [hy];exact hx
theorem pm_loop (s:List UInt8) (L:List (List UInt8)) (hL:L.length≤5001) (hk:okL 5000 L):∀ (t i n:Nat) (st:Int) (vs:List Vrb) (ps:List Pcs) (ts:List Trn),i+t=L.length→t<n→soFar vs ps ts i→
  ∃ vs' ps' ts' e x,pmR s n (.l0 st i L vs ps ts)=some (vs',ps',ts',e,x)∧smallM vs' ps' ts'
 | t,i,0,st,vs,ps,ts,hi,hn,hs=>by omega
 | 0,i,n+1,st,vs,ps,ts,hi,hn,hs=>by
   have bad:∃ vs' ps' ts' e x,(some (([]:List Vrb),([]:List Pcs),([]:List Trn),(2:Int),(0:Int)))=some (vs',ps',ts',e,x)∧smallM vs' ps' ts':=⟨_,_,_,_,_,rfl,qgm⟩
   have hM:smallM vs ps ts:=⟨by have:=hs.vl;omega,hs.v,by have:=hs.pl;omega,hs.p,by have:=hs.tl;omega,hs.t⟩
   show ∃ vs' ps' ts' e x,T47 Ops.std _ _ _ _ _ _ s _ some _=some (vs',ps',ts',e,x)∧_
   unfold T47
   simp only [qam,qab]
   rw [if_neg (by omega)]
   obtain ⟨r,r1,r2⟩:=qdu hM
   rw [r1,ob_s]
   cases r with
   | false=>exact bad
   | true=>exact ⟨_,_,_,_,_,rfl,hM⟩
 | t+1,i,n+1,st,vs,ps,ts,hi,hn,hs=>by
   have ih:=fun st vs ps ts=>pm_loop s L hL hk t (i+1) n st vs ps ts (by omega) (by omega)
   have hmono:soFar vs ps ts (i+1):=⟨by have:=hs.vl;omega,hs.v,by have:=hs.pl;omega,hs.p,by have:=hs.tl;omega,hs.t⟩
   have bad:∀ k:Int,∃ vs' ps' ts' e x,(some (([]:List Vrb),([]:List Pcs),([]:List Trn),(2:Int),k))=some (vs',ps',ts',e,x)∧smallM vs' ps' ts':=fun k=>⟨_,_,_,_,_,rfl,qgm⟩
   have hvl:=hs.vl
   have hpl:=hs.pl
   have htl:=hs.tl
   show ∃ vs' ps' ts' e x,T47 Ops.std _ _ _ _ _ _ s _ some _=some (vs',ps',ts',e,x)∧_
   unfold T47
   have hlen:(L.getD i (Ty.dflt ty9)).length≤5000:=hk.get i
   simp only [qam,qaq,qau,qa2,qab,qak,mt,List.length_cons,List.length_nil,show IntKind.wrap IntKind.i64 ((i:Int)+1)=((i+1:Nat):Int) from qan (by omega)]
   rw [if_pos (by omega),if_pos (by omega)]
   cases (L.getD i (Ty.dflt ty9)) == ([]:List UInt8) with
   | true=>exact ih st vs ps ts hmono
   | false=>
   simp only [cond_false]
   rw [if_pos (by omega)]
   obtain ⟨w,w1,w2,w3⟩:=words_ok (L.getD i (Ty.dflt ty9)) (by omega)
   rw [w1,ob_s]
   have w3':okL 60000 w:=fun x hx=>by have:=w3 x hx;omega
   by_cases h0:(0:Int)<((w.length:Nat):Int)
   ·rw [if_pos h0,if_pos (by omega)]
    cases (w.getD (Int.toNat 0) (Ty.dflt ty9)) == ([118,97,114]:List UInt8) with
    | true=>
      simp only [cond_true]
      obtain ⟨nm,lo,hi',ini,ok,v1,v2⟩:=parseVar_ok (List.drop (Int.toNat 1) (List.take w.length w)) 60000 (fun x hx=>w3' x (List.mem_of_mem_take (List.mem_of_mem_drop hx)))
      rw [if_pos (by omega),v1,ob_s]
      dsimp only
      rw [if_pos (by omega)]
      cases ok with
      | false=>exact bad _
      | true=>
      simp only [Bool.not_true,cond_false]
      split
      ·exact bad _
      ·exact ih _ _ _ _ ⟨by simp;omega,mem_app hs.v v2,by omega,hs.p,by omega,hs.t⟩
    | false=>
    simp only [cond_false]
    cases (w.getD (Int.toNat 0) (Ty.dflt ty9)) == ([112,114,111,99]:List UInt8) with
    | true=>
      simp only [cond_true]
      by_cases h1:(1:Int)<((w.length:Nat):Int)
      ·rw [if_pos h1,if_pos (by omega),if_pos (by omega),if_pos (by omega),if_neg (fun h=>h h1)]
       split
       ·exact bad _
       ·exact ih _ _ _ _ ⟨by omega,hs.v,by simp;omega,mem_app hs.p ⟨w3'.get (Int.toNat 1),by simp;omega,fun x hx=>w3' x (List.mem_of_mem_take (List.mem_of_mem_drop hx))⟩,by omega,hs.t⟩
      ·rw [if_neg h1,if_pos h1];exact bad _
    | false=>
    simp only [cond_false]
    cases (w.getD (Int.toNat 0) (Ty.dflt ty9)) == ([116,114,97,110,115]:List UInt8) with
    | true=>
      simp only [cond_true]
      obtain ⟨r,r1,r2⟩:=skip_ok (L.getD i (Ty.dflt ty9)) (by omega) 1 (by omega)
      have r1':M90 (L.getD i (Ty.dflt ty9)) 1=some r:=r1
      obtain ⟨id,a,b,c,d,g,ef,ok,t1,t2⟩:=parseTrans_ok r (by omega)
      rw [if_pos (by omega),r1',ob_s,t1,ob_s]
      dsimp only
      rw [if_pos (by omega)]
      cases ok with
      | false=>exact bad _
      | true=>
      simp only [Bool.not_true,cond_false]
      split
      ·exact bad _
      ·exact ih _ _ _ _ ⟨by omega,hs.v,by omega,hs.p,by simp;omega,mem_app hs.t t2⟩
    | false=>exact bad _
   ·rw [if_neg h0];exact bad _
theorem parseModel_ok (s:List UInt8) (hs:s.length≤5000):∃ vs ps ts e x,M47 s=some (vs,ps,ts,e,x)∧smallM vs ps ts:=by
 show ∃ vs ps ts e x,T47 Ops.std M86 M87 M88 M90 M89 M18 s (pmR s 1000000) some none=some (vs,ps,ts,e,x)∧_
 unfold T47
 simp only [qam,qab]
 rw [if_neg (by omega)]
 obtain ⟨L,l1,l2,l3,l4⟩:=cut_ok s (by omega) 10
 rw [l1,ob_s]
 exact pm_loop s L (by omega) (fun x hx=>by have:=l4 x hx;omega) L.length 0 1000000 0 [] [] [] (by omega) (by omega) ⟨by simp,fun v h=>(by cases h),by simp,fun v h=>(by cases h),by simp,fun v h=>by cases h⟩
theorem Model_ok (p0 p1:Int) (p2:List (List Int)):∃ vs ps ts,M12 p0 p1 p2=some (vs,ps,ts)∧smallM vs ps ts:=by
 obtain ⟨s,s1,s2⟩:=Text_ok p0 p1 p2
 obtain ⟨vs,ps,ts,e,x,h1,h2⟩:=parseModel_ok s s2
 refine ⟨vs,ps,ts,?_,h2⟩
 show T12 Ops.std M48 M47 p0 p1 p2 some=_
 unfold T12
 rw [s1,ob_s,h1,ob_s]
def fnB (l:List Bool) (i:Nat):Bool:=l.getD i (Ty.dflt ty4)
theorem fnB_set (l:List Bool) (i:Nat) (hi:i<l.length) (v:Bool) (j:Nat):fnB (l.set i v) j=if j=i then v else fnB l j:=by
 unfold fnB
 rw [List.getD_eq_getElem?_getD,List.getD_eq_getElem?_getD,List.getElem?_set]
 by_cases h:i=j
 ·subst h;simp [hi]
 ·rw [if_neg h,if_neg (Ne.symm h)]
def stepB (op:Int) (a b:Nat→Bool) (i j:Nat) (o:Nat→Bool):Bool:=
 if op=4 then !a i
 else if op=5 then a i && b i
 else if op=6 then a i || b i
 else if op=7 then !a i || b i
 else if op=8 then a j
 else if op=9 then b i || (a i && o j)
 else if op=10 then b i && (a i || o j)
 else if op=11 then a i || o j
 else if op=12 then a i && o j
 else o i
def swL (op:Int) (a b:List Bool) (n back:Nat):Nat→List Bool→List Bool
 | 0,out=>out
 | k+1,out=>swL op a b n back k (out.set k (stepB op (fnB a) (fnB b) k (nx n back k) (fnB out)))
theorem qc0 (op:Int) (a b:List Bool) (n back:Nat):∀ (k:Nat) (out:List Bool),(swL op a b n back k out).length=out.length
 | 0,out=>rfl
 | k+1,out=>by rw [swL,qc0 op a b n back k];simp
section
variable (op:Int) (a b:List Bool) (n back:Nat) (hb:back<n) (hn:n≤100)
noncomputable abbrev trR:=R66 op a b (n:Nat) (back:Nat)
def lensOk:Prop:=(op=4∨op=5∨op=6∨op=7∨op=8∨op=9∨op=10∨op=11∨op=12→a.length=n)∧(op=5∨op=6∨op=7∨op=9∨op=10→b.length=n)
include hb in
theorem tr_1015 (hl:lensOk op a b n) (m r i:Nat) (hi:i<n) (out:List Bool) (ho:out.length=n) :
  trR op a b n back (m+1) (.l1015 r i (nx n back i:Nat) out)=trR op a b n back m (.l1011 r i (out.set i (stepB op (fnB a) (fnB b) i (nx n back i) (fnB out)))):=by
 have hj:=nx_lt n back hb hi
 obtain ⟨la,lb⟩:=hl
 have hset:out.set i (out.getD i (Ty.dflt ty4))=out:=by
  apply List.ext_getElem?
  intro k
  rw [List.getElem?_set]
  by_cases hk:i=k
  ·subst hk
   rw [if_pos rfl,if_pos (by omega),List.getD_eq_getElem?_getD,List.getElem?_eq_getElem (by omega)];rfl
  ·rw [if_neg hk]
 show T66 Ops.std op a b (n:Nat) (back:Nat) _ some _=_
 unfold T66 stepB
 simp only [qas,qaq,qab,qak,ho]
 have ci:(0:Int)≤(i:Int)∧(i:Int)<((n:Nat):Int):=by omega
 have cj:(0:Int)≤((nx n back i:Nat):Int)∧((nx n back i:Nat):Int)<((n:Nat):Int):=by omega
 by_cases h4:op=4
 ·rw [if_pos h4,if_pos h4,la (by omega)];simp only [if_pos ci,if_pos cj];rfl
 rw [if_neg h4,if_neg h4]
 by_cases h5:op=5
 ·rw [if_pos h5,if_pos h5,la (by omega),lb (by omega)];simp only [if_pos ci,if_pos cj]
  show cond (fnB a i) _ _=_
  cases fnB a i<;>rfl
 rw [if_neg h5,if_neg h5]
 by_cases h6:op=6
 ·rw [if_pos h6,if_pos h6,la (by omega),lb (by omega)];simp only [if_pos ci,if_pos cj]
  show cond (fnB a i) _ _=_
  cases fnB a i<;>rfl
 rw [if_neg h6,if_neg h6]
 by_cases h7:op=7
 ·rw [if_pos h7,if_pos h7,la (by omega),lb (by omega)];simp only [if_pos ci,if_pos cj]
  show cond (!fnB a i) _ _=_
  cases fnB a i<;>rfl
 rw [if_neg h7,if_neg h7]
 by_cases h8:op=8
 ·rw [if_pos h8,if_pos h8,la (by omega)];simp only [if_pos ci,if_pos cj];rfl
 rw [if_neg h8,if_neg h8]
 by_cases h9:op=9
 ·rw [if_pos h9,if_pos h9,la (by omega),lb (by omega)];simp only [if_pos ci,if_pos cj]
  show cond (fnB b i) _ (cond (fnB a i) _ _)=_
  cases fnB b i<;>cases fnB a i<;>rfl
 rw [if_neg h9,if_neg h9]
 by_cases h10:op=10
 ·rw [if_pos h10,if_pos h10,la (by omega),lb (by omega)];simp only [if_pos ci,if_pos cj]
  show cond (fnB b i) (cond (fnB a i) _ _) _=_
  cases fnB b i<;>cases fnB a i<;>rfl
 rw [if_neg h10,if_neg h10]
 by_cases h11:op=11
 ·rw [if_pos h11,if_pos h11,la (by omega)];simp only [if_pos ci,if_pos cj]
  show cond (fnB a i) _ _=_
  cases fnB a i<;>rfl
 rw [if_neg h11,if_neg h11]
 by_cases h12:op=12
 ·rw [if_pos h12,if_pos h12,la (by omega)];simp only [if_pos ci,if_pos cj]
  show cond (fnB a i) _ _=_
  cases fnB a i<;>rfl
 rw [if_neg h12,if_neg h12]
 show _=trR op a b n back m (.l1011 r i (out.set i (out.getD i (Ty.dflt ty4))))
 rw [hset]
include hb hn in
theorem tr_step (hl:lensOk op a b n) (m r i:Nat) (hr:r<1000) (hi:i<n) (out:List Bool) (ho:out.length=n) :
  trR op a b n back (m+3) (.l2 r ((i+1:Nat)-1:Int) out)=trR op a b n back m (.l2 r ((i:Nat)-1:Int) (out.set i (stepB op (fnB a) (fnB b) i (nx n back i) (fnB out)))):=by
 have h2:trR op a b n back (m+2+1) (.l2 r (i:Nat) out)=trR op a b n back (m+2) (.l1015 r i (nx n back i:Nat) out):=by
  show T66 Ops.std op a b (n:Nat) (back:Nat) _ some _=_
  unfold T66
  simp only [qaz,qas,qab]
  rw [if_pos (by omega),show IntKind.wrap IntKind.i64 ((i:Int)+1)=((i+1:Nat):Int) from qan (by omega)]
  unfold nx
  by_cases h:i+1=n
  ·rw [if_pos (by omega),if_pos h]
  ·rw [if_neg (by omega),if_neg h]
 have e1:((i+1:Nat)-1:Int)=(i:Nat):=by omega
 rw [e1]
 refine h2.trans ((tr_1015 op a b n back hb hl (m+1) r i hi out ho).trans ?_)
 show T66 Ops.std op a b (n:Nat) (back:Nat) _ some _=_
 unfold T66
 simp only [wrap64 (show -9223372036854775808≤(i:Int)-1 by omega) (by omega)]
include hb hn in
theorem tr_sweep (hl:lensOk op a b n) (r:Nat) (hr:r<1000):∀ (k:Nat),k≤n→∀ (m:Nat) (out:List Bool),out.length=n→
  trR op a b n back (m+3*k) (.l2 r ((k:Nat)-1:Int) out)=trR op a b n back m (.l2 r (-1) (swL op a b n back k out))
 | 0,hk,m,out,ho=>rfl
 | k+1,hk,m,out,ho=>by
   have h1:=tr_step op a b n back hb hn hl (m+3*k) r k hr (by omega) out ho
   rw [show m+3*(k+1)=m+3*k+3 by omega]
   refine h1.trans ?_
   exact tr_sweep hl r hr k (by omega) m _ (by simp [ho])
def swN (k:Nat) (out:List Bool):List Bool:=match k with
 | 0=>out
 | k+1=>swN k (swL op a b n back n out)
theorem swN_len:∀ (k:Nat) (out:List Bool),(swN op a b n back k out).length=out.length
 | 0,out=>rfl
 | k+1,out=>by rw [swN,swN_len k,qc0]
include hb hn in
theorem tr_last (hop:op=9∨op=10∨op=11∨op=12) (hl:lensOk op a b n):∀ (t r f:Nat),r+t=n+2→400*t<f→∀ (out:List Bool),out.length=n→trR op a b n back f (.l1 r out)=some (swN op a b n back t out)
 | 0,r,f,hr,hf,out,ho=>by
   obtain ⟨g,rfl⟩:∃ g,f=g+1:=⟨f-1,by omega⟩
   show T66 Ops.std op a b (n:Nat) (back:Nat) _ some _=_
   unfold T66
   simp only [qaz,qab,show IntKind.wrap IntKind.i64 ((n:Int)+1)=((n+1:Nat):Int) from qan (by omega)]
   rw [if_neg (by omega)]
   rfl
 | t+1,r,f,hr,hf,out,ho=>by
   obtain ⟨g,rfl⟩:∃ g,f=(g+1+1)+3*n+1:=⟨f-3*n-3,by omega⟩
   have h1:trR op a b n back ((g+1+1)+3*n+1) (.l1 r out)=trR op a b n back ((g+1+1)+3*n) (.l2 r ((n:Nat)-1:Int) out):=by
    show T66 Ops.std op a b (n:Nat) (back:Nat) _ some _=_
    unfold T66
    simp only [qaz,qab,show IntKind.wrap IntKind.i64 ((n:Int)+1)=((n+1:Nat):Int) from qan (by omega),wrap64 (show -9223372036854775808≤(n:Int)-1 by omega) (by omega)]
    rw [if_pos (by omega)]
   have h2:=tr_sweep op a b n back hb hn hl r (by omega) n (Nat.le_refl _) (g+1+1) out ho
   have h3:trR op a b n back (g+1+1) (.l2 r (-1) (swL op a b n back n out))=trR op a b n back g (.l1 ((r+1:Nat):Int) (swL op a b n back n out)):=by
    have e:trR op a b n back (g+1+1) (.l2 r (-1) (swL op a b n back n out))=trR op a b n back (g+1) (.l1008 r (swL op a b n back n out)):=by
     show T66 Ops.std op a b (n:Nat) (back:Nat) _ some _=_
     unfold T66
     simp only [qaz,qas,qa2,qab]
     rw [if_neg (by omega)]
     rcases hop with h | h | h | h
     ·rw [if_neg (fun x=>x h)]
     ·rw [if_pos (by omega),if_neg (fun x=>x h)]
     ·rw [if_pos (by omega),if_pos (by omega),if_neg (fun x=>x h)]
     ·rw [if_pos (by omega),if_pos (by omega),if_pos (by omega),if_neg (fun x=>x h)]
    refine e.trans ?_
    show T66 Ops.std op a b (n:Nat) (back:Nat) _ some _=_
    unfold T66
    simp only [show IntKind.wrap IntKind.i64 ((r:Int)+1)=((r+1:Nat):Int) from qan (by omega)]
   refine h1.trans (h2.trans (h3.trans ?_))
   exact tr_last hop hl t (r+1) g (by omega) (by omega) _ (by rw [qc0];exact ho)
include hb hn in
theorem tr_once (hop:op≠9∧op≠10∧op≠11∧op≠12) (hl:lensOk op a b n) (f:Nat) (hf:400<f) (out:List Bool) (ho:out.length=n):trR op a b n back f (.l1 0 out)=some (swL op a b n back n out):=by
 obtain ⟨g,rfl⟩:∃ g,f=(g+1)+3*n+1:=⟨f-3*n-2,by omega⟩
 have h1:trR op a b n back ((g+1)+3*n+1) (.l1 0 out)=trR op a b n back ((g+1)+3*n) (.l2 (0:Nat) ((n:Nat)-1:Int) out):=by
  show T66 Ops.std op a b (n:Nat) (back:Nat) _ some _=_
  unfold T66
  simp only [qaz,qab,show IntKind.wrap IntKind.i64 ((n:Int)+1)=((n+1:Nat):Int) from qan (by omega),wrap64 (show -9223372036854775808≤(n:Int)-1 by omega) (by omega)]
  rw [if_pos (by omega)]
  rfl
 have h2:=tr_sweep op a b n back hb hn hl 0 (by omega) n (Nat.le_refl _) (g+1) out ho
 refine h1.trans (h2.trans ?_)
 show T66 Ops.std op a b (n:Nat) (back:Nat) _ some _=_
 unfold T66
 simp only [qaz,qas,qa2,qab]
 rw [if_neg (by omega),if_pos hop.1,if_pos hop.2.1,if_pos hop.2.2.1,if_pos hop.2.2.2]
def ini (op:Int):Bool:=decide (op=10∨op=12∨op=1)
include hn in
theorem tr_init:∀ (t i f:Nat),i+t=n→2*t+1<f→∀ (out:List Bool),out.length=n→(∀ j,j<i→fnB out j=ini op)→∃ (g:Nat) (out':List Bool),f≤g+2*t+1∧trR op a b n back f (.l0 i out)=trR op a b n back g (.l1 0 out')∧out'.length=n∧∀ j,j<n→fnB out' j=ini op
 | 0,i,f,hi,hf,out,ho,hk=>by
   obtain ⟨g,rfl⟩:∃ g,f=g+1:=⟨f-1,by omega⟩
   refine ⟨g,out,by omega,?_,ho,fun j hj=>hk j (by omega)⟩
   show T66 Ops.std op a b (n:Nat) (back:Nat) _ some _=_
   unfold T66
   simp only [qam,qab]
   rw [if_neg (by omega)]
 | t+1,i,f,hi,hf,out,ho,hk=>by
   obtain ⟨g,rfl⟩:∃ g,f=g+1+1:=⟨f-2,by omega⟩
   have h1:trR op a b n back (g+1+1) (.l0 i out)=trR op a b n back (g+1) (.l1004 i (out.set i (ini op))):=by
    show T66 Ops.std op a b (n:Nat) (back:Nat) _ some _=_
    unfold T66 ini
    simp only [qam,qas,qaq,qab,qak,ho]
    rw [if_pos (by omega)]
    by_cases h10:op=10
    ·rw [if_pos h10,if_pos (by omega),decide_eq_true (.inl h10)]
    ·rw [if_neg h10]
     by_cases h12:op=12
     ·rw [if_pos h12,if_pos (by omega),decide_eq_true (.inr (.inl h12))]
     ·rw [if_neg h12,if_pos (by omega)]
      congr 3
      simp [h10,h12]
   have h2:trR op a b n back (g+1) (.l1004 i (out.set i (ini op)))=trR op a b n back g (.l0 ((i+1:Nat):Int) (out.set i (ini op))):=by
    show T66 Ops.std op a b (n:Nat) (back:Nat) _ some _=_
    unfold T66
    simp only [show IntKind.wrap IntKind.i64 ((i:Int)+1)=((i+1:Nat):Int) from qan (by omega)]
   obtain ⟨g',out',e1,e2,e3,e4⟩:=tr_init t (i+1) g (by omega) (by omega) (out.set i (ini op)) (by simp [ho]) fun j hj=>by
    rw [fnB_set _ _ (by omega)]
    by_cases h:j=i
    ·rw [if_pos h]
    ·rw [if_neg h];exact hk j (by omega)
   exact ⟨g',out',by omega,h1.trans (h2.trans e2),e3,e4⟩
def rowOK (op:Int) (a b:Nat→Bool) (n back:Nat) (i:Nat):Bool:=
 if op=1 then true else if op=2∨op=3 then false
 else if op=4∨op=8∨op=11∨op=12 then sem1 n back op a i else sem2 n back op a b i
theorem swL_fn (g:Nat→Bool→Bool) (hg:∀ i o,i<n→stepB op (fnB a) (fnB b) i (nx n back i) o=g i (o (nx n back i))):∀ (k:Nat),k≤n→∀ (out:List Bool),out.length=n→∀ (o:Nat→Bool),(∀ i,i<n→fnB out i=o i)→back<n→∀ i,i<n→fnB (swL op a b n back k out) i=sw n back g k o i
 | 0,hk,out,ho,o,h,hb,i,hi=>h i hi
 | k+1,hk,out,ho,o,h,hb,i,hi=>by
   rw [swL,sw]
   refine swL_fn g hg k (by omega) _ (by simp [ho]) _ (fun j hj=>?_) hb i hi
   rw [fnB_set _ _ (by omega)]
   unfold upd1
   by_cases e:j=k
   ·rw [if_pos e,if_pos e,hg k _ (by omega),h _ (nx_lt n back hb (by omega))]
   ·rw [if_neg e,if_neg e];exact h j hj
theorem swN_fn (g:Nat→Bool→Bool) (hg:∀ i o,i<n→stepB op (fnB a) (fnB b) i (nx n back i) o=g i (o (nx n back i))) (hb:back<n):∀ (k:Nat) (out:List Bool),out.length=n→∀ (o:Nat→Bool),(∀ i,i<n→fnB out i=o i)→∀ i,i<n→fnB (swN op a b n back k out) i=sws n back g k o i
 | 0,out,ho,o,h,i,hi=>h i hi
 | k+1,out,ho,o,h,i,hi=>by
   rw [swN,sws]
   exact swN_fn g hg hb k _ (by rw [qc0];exact ho) _ (swL_fn op a b n back g hg n (Nat.le_refl _) out ho o h hb) i hi
theorem sw_const (h:Nat→Bool):∀ (k:Nat) (o:Nat→Bool) (i:Nat),sw n back (fun j _=>h j) k o i=if i<k then h i else o i
 | 0,o,i=>by simp [sw]
 | k+1,o,i=>by
   rw [sw,sw_const h k]
   unfold upd1
   by_cases h1:i<k
   ·rw [if_pos h1,if_pos (by omega)]
   ·rw [if_neg h1]
    by_cases h2:i=k
    ·rw [if_pos h2,if_pos (by omega),h2]
    ·rw [if_neg h2,if_neg (by omega)]
theorem swL_id (hop:op=1∨op=2∨op=3):∀ (k:Nat),k≤n→∀ (out:List Bool),out.length=n→swL op a b n back k out=out
 | 0,hk,out,ho=>rfl
 | k+1,hk,out,ho=>by
   have hs:out.set k (stepB op (fnB a) (fnB b) k (nx n back k) (fnB out))=out:=by
    have e:stepB op (fnB a) (fnB b) k (nx n back k) (fnB out)=out.getD k (Ty.dflt ty4):=by
     unfold stepB
     rw [if_neg (by omega),if_neg (by omega),if_neg (by omega),if_neg (by omega),if_neg (by omega),if_neg (by omega),if_neg (by omega),if_neg (by omega),if_neg (by omega)]
     rfl
    rw [e]
    apply List.ext_getElem?
    intro j
    rw [List.getElem?_set]
    by_cases hj:k=j
    ·subst hj
     rw [if_pos rfl,if_pos (by omega),List.getD_eq_getElem?_getD,List.getElem?_eq_getElem (by omega)];rfl
    ·rw [if_neg hj]
   rw [swL,hs]
   exact swL_id hop k (by omega) out ho
include hb hn in
theorem truths_ok (hop:0≤opn op) (hl:lensOk op a b n):∃ out,M66 op a b (n:Nat) (back:Nat)=some out∧out.length=n∧∀ i,i<n→fnB out i=rowOK op (fnB a) (fnB b) n back i:=by
 have hcase:op=1∨op=2∨op=3∨op=4∨op=5∨op=6∨op=7∨op=8∨op=9∨op=10∨op=11∨op=12:=by
  unfold opn at hop
  split at hop
  ·omega
  ·split at hop
   ·omega
   ·split at hop
    ·omega
    ·omega
 show ∃ out,T66 Ops.std op a b (n:Nat) (back:Nat) (trR op a b n back 1000000) some none=some out∧_
 unfold T66
 have h0n:(0:Int)≤(n:Int):=by omega
 have hlim:n*1≤140737488355328:=by omega
 simp only [qas,qaz,qau,qak,decide_true,h0n,hlim,cond_true]
 obtain ⟨g,out,e1,e2,e3,e4⟩:=tr_init op a b n back hn n 0 1000000 (by omega) (by omega) (List.replicate n (Ty.dflt Ty.bool)) (by simp) (fun j hj=>by omega)
 have e2':trR op a b n back 1000000 (.l0 0 (List.replicate n (Ty.dflt Ty.bool)))=trR op a b n back g (.l1 0 out):=e2
 have goal:∀ out',trR op a b n back g (.l1 0 out)=some out'→out'.length=n→(∀ i,i<n→fnB out' i=rowOK op (fnB a) (fnB b) n back i)→∃ out,trR op a b n back 1000000 (.l0 0 (List.replicate n (Ty.dflt Ty.bool)))=some out∧out.length=n∧∀ i,i<n→fnB out i=rowOK op (fnB a) (fnB b) n back i:=
  fun out' h1 h2 h3=>⟨out',e2'.trans h1,h2,h3⟩
 have const:(op≠9∧op≠10∧op≠11∧op≠12)→∀ h:Nat→Bool,(∀ i o,i<n→stepB op (fnB a) (fnB b) i (nx n back i) o=h i)→(∀ i,i<n→rowOK op (fnB a) (fnB b) n back i=h i)→∃ out,trR op a b n back 1000000 (.l0 0 (List.replicate n (Ty.dflt Ty.bool)))=some out∧out.length=n∧∀ i,i<n→fnB out i=rowOK op (fnB a) (fnB b) n back i:=fun ho h hs hr=>
  goal _ (tr_once op a b n back hb hn ho hl g (by omega) out e3) (by rw [qc0];exact e3) fun i hi=>by
   rw [swL_fn op a b n back (fun j _=>h j) hs n (Nat.le_refl _) out e3 (fnB out) (fun _ _=>rfl) hb i hi,sw_const,if_pos hi,hr i hi]
 have last:(op=9∨op=10∨op=11∨op=12)→∀ (gr:Nat→Bool→Bool) (v:Bool),ini op=v→(∀ i o,i<n→stepB op (fnB a) (fnB b) i (nx n back i) o=gr i (o (nx n back i)))→(∀ i,i<n→rowOK op (fnB a) (fnB b) n back i=sws n back gr (n+2) (fun _=>v) i)→∃ out,trR op a b n back 1000000 (.l0 0 (List.replicate n (Ty.dflt Ty.bool)))=some out∧out.length=n∧∀ i,i<n→fnB out i=rowOK op (fnB a) (fnB b) n back i:=fun ho gr v hv hs hr=>
  goal _ (tr_last op a b n back hb hn ho hl (n+2) 0 g (by omega) (by omega) out e3) (by rw [swN_len];exact e3) fun i hi=>by
   rw [swN_fn op a b n back gr hs hb (n+2) out e3 (fun _=>v) (fun j hj=>by rw [e4 j hj,hv]) i hi,hr i hi]
 rcases hcase with rfl | rfl | rfl | rfl | rfl | rfl | rfl | rfl | rfl | rfl | rfl | rfl
 ·refine goal _ (tr_once 1 a b n back hb hn (by omega) hl g (by omega) out e3) (by rw [qc0];exact e3) fun i hi=>?_
  rw [swL_id 1 a b n back (.inl rfl) n (Nat.le_refl _) out e3,e4 i hi];rfl
 ·refine goal _ (tr_once 2 a b n back hb hn (by omega) hl g (by omega) out e3) (by rw [qc0];exact e3) fun i hi=>?_
  rw [swL_id 2 a b n back (.inr (.inl rfl)) n (Nat.le_refl _) out e3,e4 i hi];rfl
 ·refine goal _ (tr_once 3 a b n back hb hn (by omega) hl g (by omega) out e3) (by rw [qc0];exact e3) fun i hi=>?_
  rw [swL_id 3 a b n back (.inr (.inr rfl)) n (Nat.le_refl _) out e3,e4 i hi];rfl
 ·exact const (by omega) (fun i=>!fnB a i) (fun _ _ _=>rfl) (fun _ _=>rfl)
 ·exact const (by omega) (fun i=>fnB a i && fnB b i) (fun _ _ _=>rfl) (fun _ _=>rfl)
 ·exact const (by omega) (fun i=>fnB a i || fnB b i) (fun _ _ _=>rfl) (fun _ _=>rfl)
 ·exact const (by omega) (fun i=>!fnB a i || fnB b i) (fun _ _ _=>rfl) (fun _ _=>rfl)
 ·exact const (by omega) (fun i=>fnB a (nx n back i)) (fun _ _ _=>rfl) (fun _ _=>rfl)
 ·exact last (by omega) (ruU (fnB a) (fnB b)) false rfl (fun _ _ _=>rfl) (fun _ _=>rfl)
 ·exact last (by omega) (ruR (fnB a) (fnB b)) true rfl (fun _ _ _=>rfl) (fun _ _=>rfl)
 ·exact last (by omega) (ruF (fnB a)) false rfl (fun _ _ _=>rfl) (fun _ _=>rfl)
 ·exact last (by omega) (ruG (fnB a)) true rfl (fun _ _ _=>rfl) (fun _ _=>rfl)
end
theorem qed (n:Int):∃ v,M111 n=some v:=⟨_,rfl⟩
theorem qee (b:Bool):∃ v,M112 b=some v:=by cases b<;>exact ⟨_,rfl⟩
theorem two_some (op a b:Int):∃ v,M113 op a b=some v:=by
 show ∃ v,T113 Ops.std M111 M112 op a b some=some v
 unfold T113
 simp only [qas,qab]
 have hb:∀ n:Int,∃ v,(ob (M111 n) fun y=>some y)=some v:=fun n=>by obtain ⟨v,h⟩:=qed n;exact ⟨v,by rw [h,ob_s]⟩
 have ht:∀ n:Bool,∃ v,(ob (M112 n) fun y=>some y)=some v:=fun n=>by obtain ⟨v,h⟩:=qee n;exact ⟨v,by rw [h,ob_s]⟩
 have hc:∀ q x y:Bool,∃ v,(cond q (ob (M112 x) fun y=>some y) (ob (M112 y) fun y=>some y))=some v:=fun q x y=>by
  cases q
  ·exact ht y
  ·exact ht x
 repeat' (first | exact hb _ | exact ht _ | exact hc _ _ _ | split)
section
variable {vs:List Vrb} {ps:List Pcs} {ts:List Trn}
noncomputable abbrev evR (vs:List Vrb) (ps:List Pcs) (ts:List Trn) (s1 s2:List Int) (e:List Trm):=R64 M62 M109 M111 M105 M108 M112 M113 vs ps ts s1 s2 e
theorem eval_loop (s1 s2:List Int) (h1:s1.length=ps.length) (h2:s2.length=vs.length) (e:List Trm) (he:e.length≤30) (hk:∀ x∈e,knE vs ps ts x):∀ (t i n:Nat) (st:List Int),i+t=e.length→t<n→st.length≤i→∃ v,evR vs ps ts s1 s2 e n (.l0 i st)=some v
 | t,i,0,st,hi,hn,hs=>by omega
 | 0,i,n+1,st,hi,hn,hs=>by
   show ∃ v,T64 Ops.std _ _ _ _ _ _ _ vs ps ts s1 s2 e _ some _=some v
   unfold T64
   simp only [qam,qas,qaq,qab]
   rw [if_neg (by omega)]
   by_cases h0:((st.length:Nat):Int)=0
   ·rw [if_pos h0];exact ⟨_,rfl⟩
   ·rw [if_neg h0,if_pos (by omega)];exact ⟨_,rfl⟩
 | t+1,i,n+1,st,hi,hn,hs=>by
   have ih:=fun st=>eval_loop s1 s2 h1 h2 e he hk t (i+1) n st (by omega) (by omega)
   obtain ⟨x,hx⟩:∃ x,e.getD i (Ty.dflt ty150)=x:=⟨_,rfl⟩
   have hm:x∈e:=by rw [←hx];exact qbk (by omega) _
   obtain ⟨k2,k3⟩:=hk x hm
   show ∃ v,T64 Ops.std _ _ _ _ _ _ _ vs ps ts s1 s2 e _ some _=some v
   unfold T64
   simp only [qam,qas,qaq,qau,qab,qak,hx,mt,List.length_cons,List.length_nil,show IntKind.wrap IntKind.i64 ((i:Int)+1)=((i+1:Nat):Int) from qan (by omega)]
   rw [if_pos (by omega),if_pos (by omega)]
   by_cases o1:x.1=1
   ·rw [if_pos o1,if_pos (by omega)];exact ih _ (by simp;omega)
   rw [if_neg o1]
   by_cases o2:x.1=2
   ·obtain ⟨k,hk1,hk2⟩:=k2 o2
    rw [if_pos o2,hk2,ob_s,if_pos (by omega)]
    obtain ⟨y,hy⟩:=qed (s2.getD (Int.toNat (k:Int)) (Ty.dflt ty3))
    rw [hy,ob_s,if_pos (by omega)];exact ih _ (by simp;omega)
   rw [if_neg o2]
   by_cases o3:x.1=3
   ·obtain ⟨q,r,q1,q2,q3⟩:=k3 o3
    rw [if_pos o3,q2,ob_s,if_pos (by omega),q3,ob_s]
    obtain ⟨y,hy⟩:=qee (decide (s1.getD (Int.toNat (q:Int)) (Ty.dflt ty3)=r))
    rw [hy,ob_s,if_pos (by omega)];exact ih _ (by simp;omega)
   rw [if_neg o3]
   by_cases o4:x.1=4
   ·rw [if_pos o4]
    by_cases hl:((st.length:Nat):Int)<1
    ·rw [if_pos hl];exact ⟨_,rfl⟩
    ·have hw1:IntKind.wrap IntKind.i64 ((st.length:Int)-1)=((st.length-1:Nat):Int):=by rw [wrap64 (by omega) (by omega)];omega
     simp only [hw1,qak]
     obtain ⟨y,hy⟩:=qee (decide (st.getD (st.length-1) (Ty.dflt ty3)=0))
     rw [if_neg hl,if_pos trivial,if_pos (by omega),if_pos (by omega),hy,ob_s,if_pos (by omega),if_pos (by simp;omega)]
     exact ih _ (by simp;omega)
   rw [if_neg o4]
   by_cases o5:x.1=5
   ·rw [if_pos o5]
    by_cases hl:((st.length:Nat):Int)<1
    ·rw [if_pos hl];exact ⟨_,rfl⟩
    ·have hw1:IntKind.wrap IntKind.i64 ((st.length:Int)-1)=((st.length-1:Nat):Int):=by rw [wrap64 (by omega) (by omega)];omega
     simp only [hw1,qak]
     obtain ⟨y,hy⟩:=qed (IntKind.wrap IntKind.i64 (0-st.getD (st.length-1) (Ty.dflt ty3)))
     rw [if_neg hl,if_pos trivial,if_pos (by omega),if_pos (by omega),hy,ob_s,if_pos (by omega),if_pos (by simp;omega)]
     exact ih _ (by simp;omega)
   rw [if_neg o5]
   by_cases hl:((st.length:Nat):Int)<2
   ·rw [if_pos hl];exact ⟨_,rfl⟩
   ·have hw1:IntKind.wrap IntKind.i64 ((st.length:Int)-1)=((st.length-1:Nat):Int):=by rw [wrap64 (by omega) (by omega)];omega
    have hw2:IntKind.wrap IntKind.i64 ((st.length:Int)-2)=((st.length-2:Nat):Int):=by rw [wrap64 (by omega) (by omega)];omega
    simp only [hw1,hw2,qak]
    obtain ⟨y,hy⟩:=two_some x.1 (st.getD (st.length-2) (Ty.dflt ty3)) (st.getD (st.length-1) (Ty.dflt ty3))
    rw [if_neg hl,if_pos trivial,if_pos (by omega),if_pos (by omega),if_pos (by omega),hy,ob_s,if_pos (by omega),if_pos (by simp;omega)]
    exact ih _ (by simp;omega)
theorem eval_ok (hg:smallG vs ps) (s1 s2:List Int) (e:List Trm) (he:shortE e):∃ v,M64 vs ps ts s1 s2 e=some v:=by
 show ∃ v,T64 Ops.std M62 M109 M111 M105 M108 M112 M113 vs ps ts s1 s2 e (evR vs ps ts s1 s2 e 1000000) some none=some v
 unfold T64
 obtain ⟨b,b1,b2⟩:=qe3 ts hg e he
 rw [b1,ob_s]
 cases hb:b with
 | false=>exact ⟨_,rfl⟩
 | true=>
 simp only [Bool.not_true,cond_false,qas,qa2,qab]
 by_cases c1:((s1.length:Nat):Int)=((ps.length:Nat):Int)
 ·rw [if_neg (fun h=>h c1)]
  by_cases c2:((s2.length:Nat):Int)=((vs.length:Nat):Int)
  ·rw [if_neg (fun h=>h c2)]
   exact eval_loop s1 s2 (by omega) (by omega) e he.1 (b2 hb).2 e.length 0 1000000 [] (by omega) (by have:=he.1;omega) (by simp)
  ·rw [if_pos c2];exact ⟨_,rfl⟩
 ·rw [if_pos c1];exact ⟨_,rfl⟩
abbrev Stt:=List Int×List Int
structure goodSt (vs:List Vrb) (ps:List Pcs) (s:Stt):Prop where
 l1:s.1.length=ps.length
 l2:s.2.length=vs.length
 p:∀ i,i<ps.length→0≤s.1.getD i (Ty.dflt ty3)∧s.1.getD i (Ty.dflt ty3)<((ps.getD i (Ty.dflt ty98)).2.length:Int)
 v:∀ i,i<vs.length→(vs.getD i (Ty.dflt ty94)).2.1≤s.2.getD i (Ty.dflt ty3)∧s.2.getD i (Ty.dflt ty3)≤(vs.getD i (Ty.dflt ty94)).2.2.1
theorem getD_app {α:Type} {l:List α} {x d:α} {j:Nat}:(l++[x]).getD j d=if j<l.length then l.getD j d else if j=l.length then x else d:=by
 simp only [List.getD_eq_getElem?_getD]
 by_cases h:j<l.length
 ·rw [if_pos h,List.getElem?_append_left h]
 ·rw [if_neg h,List.getElem?_append_right (by omega)]
  by_cases h2:j=l.length
  ·rw [if_pos h2,h2];simp
  ·rw [if_neg h2,List.getElem?_eq_none (by simp;omega)];rfl
noncomputable abbrev stR (vs:List Vrb) (ps:List Pcs) (ts:List Trn) (x:Int):=R30 M29 vs ps ts x
theorem st_l1 (hM:goodM vs ps) (x:Int) (L:List Int) (h1:L.length=ps.length) (hp:∀ i,i<ps.length→0≤L.getD i (Ty.dflt ty3)∧L.getD i (Ty.dflt ty3)<((ps.getD i (Ty.dflt ty98)).2.length:Int)) :
  ∀ (t i n:Nat) (V:List Int),i+t=vs.length→t<n→V.length=i→(∀ j,j<i→(vs.getD j (Ty.dflt ty94)).2.1≤V.getD j (Ty.dflt ty3)∧V.getD j (Ty.dflt ty3)≤(vs.getD j (Ty.dflt ty94)).2.2.1)→∃ s,stR vs ps ts x n (.l1 i L V)=some s∧goodSt vs ps s
 | t,i,0,V,hi,hn,hv,hk=>by omega
 | 0,i,n+1,V,hi,hn,hv,hk=>by
   show ∃ s,T30 Ops.std _ vs ps ts x _ some _=some s∧_
   unfold T30
   simp only [qam,qab]
   rw [if_neg (by omega)]
   exact ⟨_,rfl,h1,by show V.length=_;omega,hp,fun j hj=>hk j (by omega)⟩
 | t+1,i,n+1,V,hi,hn,hv,hk=>by
   have hvl:=hM.vl
   have ih:=fun V=>st_l1 hM x L h1 hp t (i+1) n V (by omega) (by omega)
   obtain ⟨y,hy⟩:∃ y,vs.getD i (Ty.dflt ty94)=y:=⟨_,rfl⟩
   have ho:okVar y:=by rw [←hy];exact hM.v _ (qbk (by omega) _)
   obtain ⟨o1,o2,o3,o4⟩:=ho
   show ∃ s,T30 Ops.std _ vs ps ts x _ some _=some s∧_
   unfold T30
   have hw:IntKind.wrap IntKind.i64 (3+IntKind.wrap IntKind.i64 (4*(i:Int)))=((4*i+3:Nat):Int):=by rw [wrap64 (n:=4*(i:Int)) (by omega) (by omega),wrap64 (by omega) (by omega)];omega
   have hN:IntKind.wrap IntKind.i64 (IntKind.wrap IntKind.i64 (y.2.2.1-y.2.1)+1)=(((y.2.2.1-y.2.1+1).toNat:Nat):Int):=by rw [wrap64 (n:=y.2.2.1-y.2.1) (by omega) (by omega),wrap64 (by omega) (by omega)];omega
   simp only [qam,qas,qaq,qau,qab,qak,hy,hw,hN,mt,List.length_cons,List.length_nil,show IntKind.wrap IntKind.i64 ((i:Int)+1)=((i+1:Nat):Int) from qan (by omega)]
   obtain ⟨k,k1,k2⟩:=pickN (IntKind.wrap IntKind.i64 (Int.tdiv x ((4*i+3:Nat):Int))) (y.2.2.1-y.2.1+1).toNat (by omega) (by omega)
   rw [if_pos (by omega),if_pos (by omega),if_neg (by omega),if_pos (by omega),if_pos (by omega),k2,ob_s,if_pos (by omega),wrap64 (n:=y.2.1+(k:Int)) (by omega) (by omega)]
   refine ih _ (by simp;omega) fun j hj=>?_
   rw [getD_app]
   by_cases h:j<V.length
   ·rw [if_pos h];exact hk j (by omega)
   ·rw [if_neg h,if_pos (by omega),show j=i by omega,hy];exact ⟨by omega,by omega⟩
theorem st_l0 (hM:goodM vs ps) (x:Int):∀ (t i n:Nat) (L:List Int),i+t=ps.length→t+10<n→L.length=i→(∀ j,j<i→0≤L.getD j (Ty.dflt ty3)∧L.getD j (Ty.dflt ty3)<((ps.getD j (Ty.dflt ty98)).2.length:Int))→∃ s,stR vs ps ts x n (.l0 i L)=some s∧goodSt vs ps s
 | t,i,0,L,hi,hn,hv,hk=>by omega
 | 0,i,n+1,L,hi,hn,hv,hk=>by
   have hvl:=hM.vl
   show ∃ s,T30 Ops.std _ vs ps ts x _ some _=some s∧_
   unfold T30
   simp only [qam,qab]
   rw [if_neg (by omega)]
   exact st_l1 hM x L (by omega) (fun j hj=>hk j (by omega)) vs.length 0 n [] (by omega) (by omega) rfl (fun j hj=>by omega)
 | t+1,i,n+1,L,hi,hn,hv,hk=>by
   have hpl:=hM.pl
   have ih:=fun L=>st_l0 hM x t (i+1) n L (by omega) (by omega)
   obtain ⟨y,hy⟩:∃ y,ps.getD i (Ty.dflt ty98)=y:=⟨_,rfl⟩
   have ho:1≤y.2.length∧y.2.length≤6:=by rw [←hy];exact hM.p _ (qbk (by omega) _)
   show ∃ s,T30 Ops.std _ vs ps ts x _ some _=some s∧_
   unfold T30
   have hw:IntKind.wrap IntKind.i64 (1+(i:Int))=((i+1:Nat):Int):=by rw [wrap64 (by omega) (by omega)];omega
   simp only [qam,qas,qaq,qau,qab,qak,hy,hw,mt,List.length_cons,List.length_nil,show IntKind.wrap IntKind.i64 ((i:Int)+1)=((i+1:Nat):Int) from qan (by omega)]
   obtain ⟨k,k1,k2⟩:=pickN (IntKind.wrap IntKind.i64 (Int.tdiv x ((i+1:Nat):Int))) y.2.length (by omega) (by omega)
   rw [if_pos (by omega),if_neg (by omega),if_pos (by omega),k2,ob_s,if_pos (by omega)]
   refine ih _ (by simp;omega) fun j hj=>?_
   rw [getD_app]
   by_cases h:j<L.length
   ·rw [if_pos h];exact hk j (by omega)
   ·rw [if_neg h,if_pos (by omega),show j=i by omega,hy];exact ⟨by omega,by omega⟩
theorem State_ok (hM:goodM vs ps) (x:Int):∃ s,M30 vs ps ts x=some s∧goodSt vs ps s:=by
 have hpl:=hM.pl
 show ∃ s,T30 Ops.std M29 vs ps ts x (stR vs ps ts x 1000000) some none=some s∧_
 unfold T30
 exact st_l0 hM x ps.length 0 1000000 [] (by omega) (by omega) rfl (fun j hj=>by omega)
end
abbrev Stp:=Stt×List Int
section
variable {vs:List Vrb} {ps:List Pcs} {ts:List Trn}
noncomputable abbrev wdR (vs:List Vrb) (ps:List Pcs) (ts:List Trn) (a b:List Int):=R20 M30 vs ps ts a b
theorem mem_app1 {P:Stp→Prop} {l:List Stp} {x:Stp} (h:∀ y∈l,P y) (hx:P x):∀ y∈l++[x],P y:=fun y hy=>by
 rcases List.mem_append.mp hy with h' | h'
 ·exact h y h'
 ·rw [List.mem_singleton.mp h'];exact hx
def wordOk (vs:List Vrb) (ps:List Pcs) (w:List Stp×List Stp):Prop:=w.1.length≤6∧1≤w.2.length∧w.2.length≤6∧(∀ x∈w.1,goodSt vs ps x.1)∧∀ x∈w.2,goodSt vs ps x.1
theorem wd_end (hM:goodM vs ps) (st cy:List Stp) (h1:st.length≤6) (h2:cy.length≤6) (k1:∀ x∈st,goodSt vs ps x.1) (k2:∀ x∈cy,goodSt vs ps x.1) (k:(List Stp×List Stp)→Option (List Stp×List Stp)) (hk:k=some) :
  ∃ w,(if ((cy.length:Nat):Int)=0 then ob (M30 vs ps ts 0) (fun y=>k (st,[((y.1,y.2),[])])) else k (st,cy))=some w∧wordOk vs ps w:=by
 subst hk
 by_cases h:((cy.length:Nat):Int)=0
 ·obtain ⟨s,s1,s2⟩:=State_ok (ts:=ts) hM 0
  rw [if_pos h,s1,ob_s]
  exact ⟨_,rfl,h1,by simp,by simp,k1,fun x hx=>by rw [List.mem_singleton.mp hx];exact s2⟩
 ·rw [if_neg h]
  exact ⟨_,rfl,h1,by show 1≤cy.length;omega,h2,k1,k2⟩
theorem wd_l1 (hM:goodM vs ps) (a b:List Int) (st:List Stp) (h1:st.length≤6) (k1:∀ x∈st,goodSt vs ps x.1):∀ (t i n:Nat) (cy:List Stp),i+t=6→t<n→cy.length=i→(∀ x∈cy,goodSt vs ps x.1)→∃ w,wdR vs ps ts a b n (.l1 i st cy)=some w∧wordOk vs ps w
 | t,i,0,cy,hi,hn,hl,hk=>by omega
 | t,i,n+1,cy,hi,hn,hl,hk=>by
   have he:=wd_end (ts:=ts) hM st cy h1 (by omega) k1 hk some rfl
   show ∃ w,T20 Ops.std _ vs ps ts a b _ some _=some w∧_
   unfold T20
   simp only [qam,qas,qaq,qau,qab,qak,mt,List.length_cons,List.length_nil]
   by_cases c1:(i:Int)<((b.length:Nat):Int)
   ·rw [if_pos c1]
    by_cases c2:(i:Int)<6
    ·obtain ⟨t,rfl⟩:∃ t',t=t'+1:=⟨t-1,by omega⟩
     obtain ⟨s,s1,s2⟩:=State_ok (ts:=ts) hM (b.getD i (Ty.dflt ty3))
     rw [if_pos c2,if_pos (by omega),s1,ob_s,if_pos (by omega),show IntKind.wrap IntKind.i64 ((i:Int)+1)=((i+1:Nat):Int) from qan (by omega)]
     exact wd_l1 hM a b st h1 k1 t (i+1) n _ (by omega) (by omega) (by simp [hl]) (mem_app1 hk s2)
    ·rw [if_neg c2];exact he
   ·rw [if_neg c1];exact he
theorem wd_l0 (hM:goodM vs ps) (a b:List Int):∀ (t i n:Nat) (st:List Stp),i+t=6→t+10<n→st.length=i→(∀ x∈st,goodSt vs ps x.1)→∃ w,wdR vs ps ts a b n (.l0 i st)=some w∧wordOk vs ps w
 | t,i,0,cy,hi,hn,hl,hk=>by omega
 | t,i,n+1,st,hi,hn,hl,hk=>by
   have he:=wd_l1 (ts:=ts) hM a b st (by omega) hk 6 0 n [] (by omega) (by omega) rfl (fun x hx=>by cases hx)
   show ∃ w,T20 Ops.std _ vs ps ts a b _ some _=some w∧_
   unfold T20
   simp only [qam,qas,qaq,qau,qab,qak,mt,List.length_cons,List.length_nil]
   by_cases c1:(i:Int)<((a.length:Nat):Int)
   ·rw [if_pos c1]
    by_cases c2:(i:Int)<6
    ·obtain ⟨t,rfl⟩:∃ t',t=t'+1:=⟨t-1,by omega⟩
     obtain ⟨s,s1,s2⟩:=State_ok (ts:=ts) hM (a.getD i (Ty.dflt ty3))
     rw [if_pos c2,if_pos (by omega),s1,ob_s,if_pos (by omega),show IntKind.wrap IntKind.i64 ((i:Int)+1)=((i+1:Nat):Int) from qan (by omega)]
     exact wd_l0 hM a b t (i+1) n _ (by omega) (by omega) (by simp [hl]) (mem_app1 hk s2)
    ·rw [if_neg c2];exact he
   ·rw [if_neg c1];exact he
theorem Word_ok (hM:goodM vs ps) (a b:List Int):∃ w,M20 vs ps ts a b=some w∧wordOk vs ps w:=by
 show ∃ w,T20 Ops.std M30 vs ps ts a b (wdR vs ps ts a b 1000000) some none=some w∧_
 unfold T20
 exact wd_l0 hM a b 6 0 1000000 [] (by omega) (by omega) rfl (fun x hx=>by cases hx)
noncomputable abbrev ftR (vs:List Vrb) (ps:List Pcs) (ts:List Trn) (s1 s2:List Int):=R139 vs ps ts s1 s2
theorem ft_l1 (hv:vs.length≤100000) {s:Stt} (hs:goodSt vs ps s):∀ (t i n:Nat),i+t=vs.length→t<n→ftR vs ps ts s.1 s.2 n (.l1 i)=some true
 | t,i,0,hi,hn=>by omega
 | 0,i,n+1,hi,hn=>by
   have h2:=hs.l2
   show T139 Ops.std vs ps ts s.1 s.2 _ some _=_
   unfold T139
   simp only [qam,qab]
   rw [if_neg (by omega)]
 | t+1,i,n+1,hi,hn=>by
   have h2:=hs.l2
   obtain ⟨v1,v2⟩:=hs.v i (by omega)
   show T139 Ops.std vs ps ts s.1 s.2 _ some _=_
   unfold T139
   simp only [qam,qaz,qaq,qab,qak]
   rw [if_pos (by omega),if_pos (by omega),if_pos (by omega),if_neg (by omega),if_pos (by omega),if_pos (by omega),if_neg (by omega),show IntKind.wrap IntKind.i64 ((i:Int)+1)=((i+1:Nat):Int) from qan (by omega)]
   exact ft_l1 hv hs t (i+1) n (by omega) (by omega)
theorem ft_l0 (hv:vs.length≤100000) (hp:ps.length≤100000) {s:Stt} (hs:goodSt vs ps s):∀ (t i n:Nat),i+t=ps.length→t+100010<n→ftR vs ps ts s.1 s.2 n (.l0 i)=some true
 | t,i,0,hi,hn=>by omega
 | 0,i,n+1,hi,hn=>by
   have h1:=hs.l1
   show T139 Ops.std vs ps ts s.1 s.2 _ some _=_
   unfold T139
   simp only [qam,qab]
   rw [if_neg (by omega)]
   exact ft_l1 hv hs vs.length 0 n (by omega) (by omega)
 | t+1,i,n+1,hi,hn=>by
   have h1:=hs.l1
   obtain ⟨v1,v2⟩:=hs.p i (by omega)
   show T139 Ops.std vs ps ts s.1 s.2 _ some _=_
   unfold T139
   simp only [qam,qaz,qaq,qab,qak]
   rw [if_pos (by omega),if_pos (by omega),if_neg (by omega),if_pos (by omega),if_pos (by omega),if_neg (by omega),show IntKind.wrap IntKind.i64 ((i:Int)+1)=((i+1:Nat):Int) from qan (by omega)]
   exact ft_l0 hv hp hs t (i+1) n (by omega) (by omega)
theorem fits_ok (hM:goodM vs ps) {s:Stt} (hs:goodSt vs ps s):M139 vs ps ts s.1 s.2=some true:=by
 have hpl:=hM.pl
 have hvl:=hM.vl
 have h1:=hs.l1
 have h2:=hs.l2
 show T139 Ops.std vs ps ts s.1 s.2 (ftR vs ps ts s.1 s.2 1000000) some none=_
 unfold T139
 simp only [qas,qa2,qab]
 rw [if_neg (fun h=>h (by omega)),if_neg (fun h=>h (by omega))]
 exact ft_l0 (by omega) (by omega) hs ps.length 0 1000000 (by omega) (by omega)
theorem RightState_ok (hR:M18 vs ps ts=some true) (hM:goodM vs ps) {s:Stt} (hs:goodSt vs ps s):M81 vs ps ts s.1 s.2=some true:=by
 show T81 Ops.std M18 M139 vs ps ts s.1 s.2 some=_
 unfold T81
 rw [hR,ob_s]
 simp only [Bool.not_true,cond_false]
 rw [fits_ok hM hs,ob_s]
theorem at_ok (st cy:List Stp) (i:Nat) (hi:i<st.length+cy.length) (h1:st.length≤1000000) (h2:cy.length≤1000000):M65 st cy (i:Nat)=some (((st++cy).getD i (Ty.dflt ty68)).1.1,((st++cy).getD i (Ty.dflt ty68)).1.2,((st++cy).getD i (Ty.dflt ty68)).2):=by
 show T65 Ops.std st cy (i:Nat) some=_
 unfold T65
 simp only [qam,qaq,qab,qak]
 by_cases h:i<st.length
 ·rw [if_pos (by omega),if_pos (by omega)]
  simp only [List.getD_eq_getElem?_getD,List.getElem?_append_left h]
 ·have hw:IntKind.wrap IntKind.i64 ((i:Int)-(st.length:Int))=((i-st.length:Nat):Int):=by
   rw [wrap64 (by omega) (by omega)];omega
  rw [if_neg (by omega),hw,if_pos (by omega)]
  simp only [qak,List.getD_eq_getElem?_getD,List.getElem?_append_right (Nat.le_of_not_lt h)]
end
def rowL (n:Nat) (o:Nat→Bool):List Bool:=(List.range n).map o
theorem qck (n:Nat) (o:Nat→Bool):(rowL n o).length=n:=by simp [rowL]
theorem qef (n:Nat) (o:Nat→Bool) (i:Nat) (hi:i<n):fnB (rowL n o) i=o i:=by
 unfold fnB rowL
 rw [List.getD_eq_getElem?_getD,List.getElem?_map,List.getElem?_range hi];rfl
theorem rowL_eq {n:Nat} {o:Nat→Bool} {l:List Bool} (hl:l.length=n) (h:∀ i,i<n→fnB l i=o i):l=rowL n o:=by
 apply List.ext_getElem?
 intro i
 by_cases hi:i<n
 ·have h1:=h i hi
  have h2:=qef n o i hi
  unfold fnB at h1 h2
  have hr:i<(rowL n o).length:=by rw [qck];exact hi
  rw [List.getD_eq_getElem?_getD,List.getElem?_eq_getElem (by omega)] at h1
  rw [List.getD_eq_getElem?_getD,List.getElem?_eq_getElem hr] at h2
  rw [List.getElem?_eq_getElem (by omega),List.getElem?_eq_getElem hr]
  simp only [Option.getD_some] at h1 h2
  rw [h1,h2]
 ·rw [List.getElem?_eq_none (by omega),List.getElem?_eq_none (by rw [qck];omega)]
theorem qeg {op:Int} {a b:List Bool} {n back:Nat} (hb:back<n) (hn:n≤100) (hop:0≤opn op) (hl:lensOk op a b n) {o:Nat→Bool} (h:∀ i,i<n→rowOK op (fnB a) (fnB b) n back i=o i):M66 op a b (n:Nat) (back:Nat)=some (rowL n o):=by
 obtain ⟨out,h1,h2,h3⟩:=truths_ok op a b n back hb hn hop hl
 rw [h1,rowL_eq h2 fun i hi=>(h3 i hi).trans (h i hi)]
theorem post_back {A:Type} (val:Fm Trm→A) (d:A) {E:List Trm→Bool} {f:List Prt} {K:List (List Int)} (Ok:Fm Trm→Prop) (hun':∀ p a,Ok (.un p a)→Ok a) (hbi':∀ p a c,Ok (.bi p a c)→Ok a∧Ok c) (P:Nat→List A→Prop)
  (hnul:∀ i p done,(Fm.nul p:Fm Trm).wf E→Ok (.nul p)→i<f.length→i<K.length→done.length=i→f.getD i (Ty.dflt ty66)=p→K.getD i (Ty.dflt ty22)=[]→P (i+1) (done++[val (.nul p)])→P i done)
  (hun:∀ i p a (j:Nat) done,(Fm.un p a).wf E→Ok (.un p a)→i<f.length→i<K.length→done.length=i→f.getD i (Ty.dflt ty66)=p→K.getD i (Ty.dflt ty22)=[(j:Int)]→j<i→done.getD j d=val a→P (i+1) (done++[val (.un p a)])→P i done)
  (hbi:∀ i p a c (j k:Nat) done,(Fm.bi p a c).wf E→Ok (.bi p a c)→i<f.length→i<K.length→done.length=i→f.getD i (Ty.dflt ty66)=p→K.getD i (Ty.dflt ty22)=[(j:Int),(k:Int)]→j<i→k<i→done.getD j d=val a→done.getD k d=val c→P (i+1) (done++[val (.bi p a c)])→P i done) :
  ∀ (t:Fm Trm),t.wf E→Ok t→∀ (b:Nat),At f K t b→∀ (done:List A),done.length=b→P (b+t.size) (done++t.post val)→P b done:=by
 intro t
 induction t with
 | nul p=>
   intro ht hok b hat done hd hP
   have hr:=hat.root (Ty.dflt ty66)
   have hk:=hat.last (Ty.dflt ty22)
   have hlen:=hat.len
   simp only [Fm.size,Fm.root,Fm.last,Nat.add_sub_cancel,Fm.post] at hr hk hlen hP ⊢
   exact hnul b p done ht hok (by omega) (by omega) hd hr hk hP
 | un p a ih=>
   intro ht hok b hat done hd hP
   have hr:=hat.root (Ty.dflt ty66)
   have hk:=hat.last (Ty.dflt ty22)
   have hlen:=hat.len
   have hsa:=a.size_pos
   have hi:b+(Fm.un p a).size-1=b+a.size:=by simp only [Fm.size];omega
   rw [hi] at hr hk
   simp only [Fm.size,Fm.root,Fm.last,Fm.post] at hr hk hlen hP ⊢
   have hg:=qby val d a done []
   rw [List.append_nil,hd] at hg
   refine ih ht.2.2 (hun' p a hok) b hat.un done hd ?_
   refine hun (b+a.size) p a (b+a.size-1) (done++a.post val) ht hok (by omega) (by omega) (by simp [qba,hd]) hr hk (by omega) hg ?_
   rw [List.append_assoc,show b+a.size+1=b+(a.size+1) by omega]
   exact hP
 | bi p a c iha ihc=>
   intro ht hok b hat done hd hP
   have hr:=hat.root (Ty.dflt ty66)
   have hk:=hat.last (Ty.dflt ty22)
   have hlen:=hat.len
   have hsa:=a.size_pos
   have hsc:=c.size_pos
   have hi:b+(Fm.bi p a c).size-1=b+a.size+c.size:=by simp only [Fm.size];omega
   rw [hi] at hr hk
   simp only [Fm.size,Fm.root,Fm.last,Fm.post] at hr hk hlen hP ⊢
   obtain ⟨oka,okc⟩:=hbi' p a c hok
   have hg:=qby val d a done (c.post val)
   rw [hd] at hg
   have hg2:=qby val d c (done++a.post val) []
   rw [List.append_nil,show (done++a.post val).length=b+a.size by simp [qba,hd]] at hg2
   refine iha ht.2.2.1 oka b hat.bi1 done hd ?_
   refine ihc ht.2.2.2 okc (b+a.size) hat.bi2 (done++a.post val) (by simp [qba,hd]) ?_
   refine hbi (b+a.size+c.size) p a c (b+a.size-1) (b+a.size+c.size-1) (done++a.post val++c.post val) ht hok (by omega) (by omega) (by simp [qba,hd];omega) hr hk (by omega) (by omega) hg hg2 ?_
   rw [show done++a.post val++c.post val++[val (Fm.bi p a c)]=done++(a.post val++c.post val++[val (Fm.bi p a c)]) by simp,show b+a.size+c.size+1=b+(a.size+c.size+1) by omega]
   exact hP
section
variable (vs:List Vrb) (ps:List Pcs) (ts:List Trn)
noncomputable def knB (e:List Trm):Bool:=(M62 vs ps ts e).getD false
def atmOk (f:List Prt):Prop:=∀ p∈f,p.1=3→shortE p.2
noncomputable def knA (f:List Prt):Bool:=f.all fun p=>if p.1=3 then knB vs ps ts p.2 else true
noncomputable abbrev k3R (f:List Prt):=R19 M62 M63 vs ps ts f
variable {vs ps}
theorem qev (hg:smallG vs ps) (f:List Prt) (hf:f.length≤60) (ha:atmOk f) (hr:M63 f=some true):∀ (t i n:Nat),i+t=f.length→t<n→k3R vs ps ts f n (.l0 i)=some (knA vs ps ts (f.drop i))
 | t,i,0,hi,hn=>by omega
 | 0,i,n+1,hi,hn=>by
   show T19 Ops.std _ _ vs ps ts f _ some _=_
   unfold T19
   simp only [qam,qab]
   rw [if_neg (by omega),List.drop_eq_nil_of_le (by omega),hr]
   rfl
 | t+1,i,n+1,hi,hn=>by
   have hlt:i<f.length:=by omega
   have ih:=qev hg f hf ha hr t (i+1) n (by omega) (by omega)
   have hm:f.getD i (Ty.dflt ty66)∈f:=qbk hlt _
   show T19 Ops.std _ _ vs ps ts f _ some _=_
   unfold T19
   rw [qbj (Ty.dflt ty66) hlt]
   simp only [qam,qas,qaq,qab,qak,show IntKind.wrap IntKind.i64 ((i:Int)+1)=((i+1:Nat):Int) from qan (by omega)]
   generalize f.getD i (Ty.dflt ty66)=p at hm ⊢
   unfold knA at ih ⊢
   rw [List.all_cons,if_pos (by omega),if_pos (by omega)]
   by_cases h3:p.1=3
   ·obtain ⟨b,b1,b2⟩:=qe3 ts hg p.2 (ha p hm h3)
    have hb:knB vs ps ts p.2=b:=by unfold knB;rw [b1];rfl
    rw [if_pos h3,if_pos h3,if_pos (by omega),b1,ob_s,hb]
    cases b with
    | false=>rfl
    | true=>simp only [Bool.not_true,cond_false,Bool.true_and];exact ih
   ·rw [if_neg h3,if_neg h3,Bool.true_and]
    exact ih
theorem qgn (hg:smallG vs ps) (f:List Prt) (hf:f.length≤60) (ha:atmOk f) (hr:M63 f=some true):M19 vs ps ts f=some (knA vs ps ts f):=by
 show T19 Ops.std M62 M63 vs ps ts f (k3R vs ps ts f 1000000) some none=_
 unfold T19
 exact qev ts hg f hf ha hr f.length 0 1000000 (by omega) (by omega)
theorem hz1 (k:Int):([k]:List Int).getD (Int.toNat 0) (Ty.dflt (Ty.int IntKind.i64))=k:=rfl
theorem hz20 (k l:Int):([k,l]:List Int).getD (Int.toNat 0) (Ty.dflt (Ty.int IntKind.i64))=k:=rfl
theorem hz21 (k l:Int):([k,l]:List Int).getD (Int.toNat 1) (Ty.dflt (Ty.int IntKind.i64))=l:=rfl
variable (vs ps) in
noncomputable def valE (w:List Stp) (e:List Trm) (i:Nat):Bool:=!decide ((M64 vs ps ts (w.getD i (Ty.dflt ty68)).1.1 (w.getD i (Ty.dflt ty68)).1.2 e).getD 0=0)
variable (vs ps) in
noncomputable abbrev alR (f:List Prt) (st cy:List Stp):=R21 M19 M42 M37 M65 M64 M66 vs ps ts f st cy
section
variable (hg:smallG vs ps) (f:List Prt) (hf:f.length≤60) (st cy:List Stp) (hst:st.length≤6) (hcy:cy.length≤6) (n:Nat) (hn:n=st.length+cy.length)
include hg hf hst hcy hn in
theorem al_l1 (i:Nat) (hi:i<f.length) (K:List (List Int)) (rows:List (List Bool)) (hrl:rows.length≤60) (p:Prt) (hp:f.getD i (Ty.dflt ty66)=p) (hsh:shortE p.2) (D:Nat) (X:Option (List (List Bool))) (hX:∀ m,D<m→alR vs ps ts f st cy m (.l0 (n:Nat) ((i+1:Nat):Int) K (rows++[rowL n (valE vs ps ts (st++cy) p.2)]))=X) :
  ∀ (t c m:Nat),c+t=n→D+t+1<m→∀ (row:List Bool),row.length=n→(∀ j,j<c→fnB row j=valE vs ps ts (st++cy) p.2 j)→alR vs ps ts f st cy m (.l1 (n:Nat) (i:Nat) (c:Nat) K rows row)=X
 | t,c,0,hc,hm,row,hr,hk=>by omega
 | 0,c,m+1,hc,hm,row,hr,hk=>by
   show T21 Ops.std _ _ _ _ _ _ vs ps ts f st cy _ some _=_
   unfold T21
   simp only [qam,qau,qab,mt,List.length_cons,List.length_nil]
   rw [if_neg (by omega),if_pos (by omega),show IntKind.wrap IntKind.i64 ((i:Int)+1)=((i+1:Nat):Int) from qan (by omega),rowL_eq hr fun j hj=>hk j (by omega)]
   exact hX m (by omega)
 | t+1,c,m+1,hc,hm,row,hr,hk=>by
   show T21 Ops.std _ _ _ _ _ _ vs ps ts f st cy _ some _=_
   unfold T21
   simp only [qam,qas,qaq,qab,qak,hp,hr]
   rw [if_pos (by omega),if_pos (by omega),at_ok st cy c (by omega) (by omega) (by omega),ob_s]
   obtain ⟨v,hv⟩:=eval_ok (ts:=ts) hg ((st++cy).getD c (Ty.dflt ty68)).1.1 ((st++cy).getD c (Ty.dflt ty68)).1.2 p.2 hsh
   have hval:valE vs ps ts (st++cy) p.2 c=!decide (v=0):=by unfold valE;rw [hv];rfl
   simp only [hv,ob_s]
   rw [if_pos (by omega),show IntKind.wrap IntKind.i64 ((c:Int)+1)=((c+1:Nat):Int) from qan (by omega)]
   refine al_l1 i hi K rows hrl p hp hsh D X hX t (c+1) m (by omega) (by omega) _ (by simp [hr]) fun j hj=>?_
   rw [fnB_set _ _ (by omega)]
   by_cases h:j=c
   ·rw [if_pos h,h,hval]
   ·rw [if_neg h];exact hk j (by omega)
end
theorem qc1 (hR:M18 vs ps ts=some true) (hM:goodM vs ps) (w:List Stp×List Stp) (hw:wordOk vs ps w):∀ (t i n:Nat),i+t=w.1.length+w.2.length→t<n→
  R42 M18 M65 M81 vs ps ts w.1 w.2 n (.l0 i)=some true
 | t,i,0,hi,hn=>by omega
 | 0,i,n+1,hi,hn=>by
   obtain ⟨w1,w2,w3,w4,w5⟩:=hw
   show T42 Ops.std _ _ _ vs ps ts w.1 w.2 _ some _=_
   unfold T42
   simp only [qam,qab,wrap64 (show -9223372036854775808≤(w.1.length:Int)+(w.2.length:Int) by omega) (by omega)]
   rw [if_neg (by omega)]
 | t+1,i,n+1,hi,hn=>by
   have ih:=qc1 hR hM w hw t (i+1) n (by omega) (by omega)
   obtain ⟨w1,w2,w3,w4,w5⟩:=hw
   show T42 Ops.std _ _ _ vs ps ts w.1 w.2 _ some _=_
   unfold T42
   simp only [qam,qab,wrap64 (show -9223372036854775808≤(w.1.length:Int)+(w.2.length:Int) by omega) (by omega)]
   rw [if_pos (by omega),at_ok w.1 w.2 i (by omega) (by omega) (by omega),ob_s]
   have hmem:(w.1++w.2).getD i (Ty.dflt ty68)∈w.1++w.2:=qbk (by simp;omega) _
   have hgs:goodSt vs ps ((w.1++w.2).getD i (Ty.dflt ty68)).1:=by
    rcases List.mem_append.mp hmem with h | h
    ·exact w4 _ h
    ·exact w5 _ h
   simp only [RightState_ok hR hM hgs,ob_s,Bool.not_true,cond_false,show IntKind.wrap IntKind.i64 ((i:Int)+1)=((i+1:Nat):Int) from qan (by omega)]
   exact ih
theorem RightLasso_ok (hR:M18 vs ps ts=some true) (hM:goodM vs ps) (w:List Stp×List Stp) (hw:wordOk vs ps w):M42 vs ps ts w.1 w.2=some true:=by
 have hl:=qc1 ts hR hM w hw (w.1.length+w.2.length) 0 1000000 (by omega) (by have:=hw.1;have:=hw.2.2.1;omega)
 obtain ⟨w1,w2,w3,w4,w5⟩:=hw
 show T42 Ops.std M18 M65 M81 vs ps ts w.1 w.2 (R42 M18 M65 M81 vs ps ts w.1 w.2 1000000) some none=_
 unfold T42
 rw [hR,ob_s]
 simp only [Bool.not_true,cond_false,qam,qab,wrap64 (show -9223372036854775808≤(w.1.length:Int)+(w.2.length:Int) by omega) (by omega)]
 rw [if_neg (by omega),if_neg (by omega)]
 exact hl
theorem wf_atm {t:Fm Trm} (ht:WF t):atmOk t.flat:=fun p hp h3=>qe2 ht p hp
noncomputable abbrev allV (vs:List Vrb) (ps:List Pcs) (ts:List Trn) (w:List Stp×List Stp) (u:Fm Trm):List Bool:=rowL (w.1.length+w.2.length) (semT (w.1.length+w.2.length) w.1.length (valE vs ps ts (w.1++w.2)) u)
theorem All_loop (hg:smallG vs ps) (t:Fm Trm) (ht:WF t) (h60:t.size≤60) (w:List Stp×List Stp) (hw:wordOk vs ps w) (R:List (List Bool)):∀ (hend:∀ m,0<m→alR vs ps ts t.flat w.1 w.2 m (.l0 ((w.1.length+w.2.length:Nat):Int) ((t.size:Nat):Int) (t.kids 0) (t.post (allV vs ps ts w)))=some R),∀ m,t.size*(w.1.length+w.2.length+2)<m→alR vs ps ts t.flat w.1 w.2 m (.l0 ((w.1.length+w.2.length:Nat):Int) ((0:Nat):Int) (t.kids 0) [])=some R:=by
 intro hend
 obtain ⟨w1,w2,w3,w4,w5⟩:=hw
 have hlf:=t.flat_len
 have hlk:=t.kids_len 0
 obtain ⟨n,hn⟩:∃ n,w.1.length+w.2.length=n:=⟨_,rfl⟩
 have hb:w.1.length<n:=by omega
 have hfu:∀ i,i<t.size→(t.size-i)*(n+2)=(t.size-(i+1))*(n+2)+(n+2):=fun i hi=>by
  rw [show t.size-i=(t.size-(i+1))+1 by omega,Nat.succ_mul]
 have key:=post_back (allV vs ps ts w) (Ty.dflt ty47) (f:=t.flat) (K:=t.kids 0) (E:=rightE) (fun _=>True) (fun _ _ _=>trivial) (fun _ _ _ _=>⟨trivial,trivial⟩)
  (fun i done=>∀ m,(t.size-i)*(n+2)<m→alR vs ps ts t.flat w.1 w.2 m (.l0 (n:Nat) (i:Nat) (t.kids 0) done)=some R)
 rw [hn] at hend ⊢
 have hval:∀ u,allV vs ps ts w u=rowL n (semT n w.1.length (valE vs ps ts (w.1++w.2)) u):=fun u=>by unfold allV;rw [hn]
 refine key ?_ ?_ ?_ t ht trivial 0 (At.all _) [] rfl ?_
 ·intro i p done hwf _ hi hi2 hd hr hk hX m hm
  have hD:=hfu i (by omega)
  obtain ⟨D,hDe⟩:∃ D,(t.size-(i+1))*(n+2)=D:=⟨_,rfl⟩
  rw [hDe] at hD hX
  rw [hD] at hm
  rw [hval] at hX
  obtain ⟨m,rfl⟩:∃ m',m=m'+1:=⟨m-1,by omega⟩
  show T21 Ops.std _ _ _ _ _ _ vs ps ts t.flat w.1 w.2 _ some _=_
  unfold T21
  have h0n:(0:Int)≤(n:Int):=by omega
  have hlim:n*1≤140737488355328:=by omega
  simp only [qam,qas,qaz,qaq,qau,qab,qak,mt,List.length_cons,List.length_nil,hr,hk,decide_true,h0n,hlim,cond_true]
  rw [if_pos (by omega),if_pos (by omega)]
  by_cases h3:p.1=3
  ·rw [if_pos h3]
   refine al_l1 ts hg t.flat (by omega) w.1 w.2 w1 w3 n hn.symm i hi (t.kids 0) done (by omega) p hr (qbx (hwf.2.1 h3)) D (some R) ?_ n 0 m (by omega) (by omega) _ (by simp) (fun j hj=>by omega)
   have hs0:semT n w.1.length (valE vs ps ts (w.1++w.2)) (Fm.nul p)=valE vs ps ts (w.1++w.2) p.2:=by
    show sem0 _ p=_
    unfold sem0;rw [if_neg (by omega),if_neg (by omega)]
   rw [hs0] at hX
   exact hX
  ·have h12:=opn0 hwf.1
   rw [if_neg h3,if_pos (by omega),if_neg (by omega),if_pos (by omega),if_neg (by omega),if_pos (by omega)]
   have htr:M66 p.1 [] [] (n:Nat) (w.1.length:Nat)=some (rowL n (semT n w.1.length (valE vs ps ts (w.1++w.2)) (Fm.nul p))):=by
    refine qeg hb (by omega) (by rw [hwf.1];omega) ⟨fun h=>by omega,fun h=>by omega⟩ fun i hi=>?_
    show _=sem0 _ p i
    unfold rowOK sem0
    rcases h12 with h | h | h
    ·rw [if_pos h,if_pos h]
    ·rw [if_neg (by omega),if_pos (by omega),if_neg (by omega),if_pos h]
    ·exact absurd h h3
   rw [htr,ob_s,if_pos (by omega),show IntKind.wrap IntKind.i64 ((i:Int)+1)=((i+1:Nat):Int) from qan (by omega)]
   exact hX m (by omega)
 ·intro i p a j done hwf _ hi hi2 hd hr hk hj hda hX m hm
  have hD:=hfu i (by omega)
  obtain ⟨D,hDe⟩:∃ D,(t.size-(i+1))*(n+2)=D:=⟨_,rfl⟩
  rw [hDe] at hD hX
  rw [hD] at hm
  rw [hval] at hX hda
  obtain ⟨m,rfl⟩:∃ m',m=m'+1:=⟨m-1,by omega⟩
  have ho:=opn1 hwf.1
  show T21 Ops.std _ _ _ _ _ _ vs ps ts t.flat w.1 w.2 _ some _=_
  unfold T21
  simp only [qam,qas,qaz,qaq,qau,qab,qak,mt,List.length_cons,List.length_nil,hr,hk,hz1,hda]
  rw [if_pos (by omega),if_pos (by omega),if_neg (by omega),if_pos (by omega),if_pos (by omega),if_pos (by omega),if_pos (by omega),if_pos (by omega),if_pos (by omega),if_pos (by omega),if_pos (by omega),if_pos (by omega),if_neg (by omega),if_pos (by omega)]
  have htr:M66 p.1 (rowL n (semT n w.1.length (valE vs ps ts (w.1++w.2)) a)) [] (n:Nat) (w.1.length:Nat)=some (rowL n (semT n w.1.length (valE vs ps ts (w.1++w.2)) (Fm.un p a))):=by
   refine qeg hb (by omega) (by rw [hwf.1];omega) ⟨fun h=>qck _ _,fun h=>by omega⟩ fun i hi=>?_
   unfold rowOK
   rw [if_neg (by omega),if_neg (by omega),if_pos (by omega)]
   exact qd9 hb p.1 (fun i hi=>qef n _ i hi) i hi
  rw [htr,ob_s,if_pos (by omega),show IntKind.wrap IntKind.i64 ((i:Int)+1)=((i+1:Nat):Int) from qan (by omega)]
  exact hX m (by omega)
 ·intro i p a c j k done hwf _ hi hi2 hd hr hk hj hk2 hda hdc hX m hm
  have hD:=hfu i (by omega)
  obtain ⟨D,hDe⟩:∃ D,(t.size-(i+1))*(n+2)=D:=⟨_,rfl⟩
  rw [hDe] at hD hX
  rw [hD] at hm
  rw [hval] at hX hda hdc
  obtain ⟨m,rfl⟩:∃ m',m=m'+1:=⟨m-1,by omega⟩
  have ho:=opn2 hwf.1
  show T21 Ops.std _ _ _ _ _ _ vs ps ts t.flat w.1 w.2 _ some _=_
  unfold T21
  simp only [qam,qas,qaz,qaq,qau,qab,qak,mt,List.length_cons,List.length_nil,hr,hk,hz20,hz21,hda,hdc]
  rw [if_pos (by omega),if_pos (by omega),if_neg (by omega),if_pos (by omega),if_pos (by omega),if_pos (by omega),if_pos (by omega),if_pos (by omega),if_pos (by omega),if_pos (by omega),if_pos (by omega),if_pos (by omega),if_pos (by omega),if_pos (by omega),if_pos (by omega),if_pos (by omega),if_pos (by omega),if_pos (by omega),if_pos (by omega),if_pos (by omega)]
  have htr:M66 p.1 (rowL n (semT n w.1.length (valE vs ps ts (w.1++w.2)) a)) (rowL n (semT n w.1.length (valE vs ps ts (w.1++w.2)) c)) (n:Nat) (w.1.length:Nat)=some (rowL n (semT n w.1.length (valE vs ps ts (w.1++w.2)) (Fm.bi p a c))):=by
   refine qeg hb (by omega) (by rw [hwf.1];omega) ⟨fun h=>qck _ _,fun h=>qck _ _⟩ fun i hi=>?_
   unfold rowOK
   rw [if_neg (by omega),if_neg (by omega),if_neg (by omega)]
   exact qgf hb p.1 (fun i hi=>qef n _ i hi) (fun i hi=>qef n _ i hi) i hi
  rw [htr,ob_s,if_pos (by omega),show IntKind.wrap IntKind.i64 ((i:Int)+1)=((i+1:Nat):Int) from qan (by omega)]
  exact hX m (by omega)
 ·intro m hm
  simp only [Nat.zero_add,List.nil_append]
  exact hend m (by omega)
theorem All_ok (hR:M18 vs ps ts=some true) (hM:goodM vs ps) (hg:smallG vs ps) (t:Fm Trm) (ht:WF t) (h60:t.size≤60) (hk:knA vs ps ts t.flat=true) (w:List Stp×List Stp) (hw:wordOk vs ps w) :
  M21 vs ps ts t.flat w.1 w.2=some (t.post (allV vs ps ts w)):=by
 have hl:=All_loop ts hg t ht h60 w hw (t.post (allV vs ps ts w)) (fun m hm=>by
  obtain ⟨m,rfl⟩:∃ m',m=m'+1:=⟨m-1,by omega⟩
  have hlf:=t.flat_len
  show T21 Ops.std _ _ _ _ _ _ vs ps ts t.flat w.1 w.2 _ some _=_
  unfold T21
  simp only [qam,qab]
  rw [if_neg (by omega)]) 1000000 (by
   have h1:=hw.1;have h2:=hw.2.2.1
   have:t.size*(w.1.length+w.2.length+2)≤60*14:=Nat.mul_le_mul h60 (by omega)
   omega)
 have hla:=RightLasso_ok ts hR hM w hw
 obtain ⟨w1,w2,w3,w4,w5⟩:=hw
 show T21 Ops.std M19 M42 M37 M65 M64 M66 vs ps ts t.flat w.1 w.2 (alR vs ps ts t.flat w.1 w.2 1000000) some none=_
 unfold T21
 rw [qgn ts hg t.flat (by rw [t.flat_len];exact h60) (wf_atm ht) (qc5 ht h60),ob_s,hk,hla,ob_s,qcu rightE ht h60 (qc5 ht h60),ob_s,wrap64 (show -9223372036854775808≤(w.1.length:Int)+(w.2.length:Int) by omega) (by omega)]
 exact hl
end
theorem rw_all {E:List Trm→Bool} {P:Prt→Prop} (h12:∀ k:Int,k≠3→P (k,[])) {t:Fm Trm}:t.wf E→(∀ p∈t.flat,P p)→∀ p∈(rwT t).flat,P p:=by
 induction t with
 | nul p=>intro _ h;exact h
 | un p a ih=>
   intro hw h
   have ha:=ih hw.2.2 fun q hq=>h q (List.mem_append.mpr (.inl hq))
   simp only [rwT,nextT]
   split
   ·exact ha
   ·intro q hq
    rcases List.mem_append.mp hq with hq | hq
    ·exact ha q hq
    ·exact h q (List.mem_append.mpr (.inr hq))
 | bi p a b iha ihb=>
   intro hw h
   have ha:=iha hw.2.2.1 fun q hq=>h q (List.mem_append.mpr (.inl (List.mem_append.mpr (.inl hq))))
   have hb:=ihb hw.2.2.2 fun q hq=>h q (List.mem_append.mpr (.inl (List.mem_append.mpr (.inr hq))))
   have hp:=opn2 hw.1
   simp only [rwT]
   rcases qbs p.1 (rwT a) (rwT b) with e | e | e | e<;>rw [e]
   ·exact ha
   ·exact hb
   ·intro q hq
    rw [List.mem_singleton.mp hq]
    exact h12 _ (by split<;>omega)
   ·intro q hq
    rcases List.mem_append.mp hq with hq | hq
    ·rcases List.mem_append.mp hq with hq | hq
     ·exact ha q hq
     ·exact hb q hq
    ·rw [List.mem_singleton.mp hq]
     exact h12 _ (by omega)
section
variable {vs:List Vrb} {ps:List Pcs} (ts:List Trn)
theorem knA_iff (f:List Prt):knA vs ps ts f=true↔∀ p∈f,p.1=3→knB vs ps ts p.2=true:=by
 unfold knA
 rw [List.all_eq_true]
 constructor
 ·intro h p hp h3
  have:=h p hp
  rw [if_pos h3] at this;exact this
 ·intro h p hp
  by_cases h3:p.1=3
  ·rw [if_pos h3];exact h p hp h3
  ·rw [if_neg h3]
theorem knA_rw {t:Fm Trm} (ht:WF t) (h:knA vs ps ts t.flat=true):knA vs ps ts (rwT t).flat=true:=
 (knA_iff ts _).mpr (rw_all (P:=fun p=>p.1=3→knB vs ps ts p.2=true) (fun k hk h3=>absurd h3 hk) ht ((knA_iff ts _).mp h))
end
def promL (f:List Prt):Nat:=(f.map fun p=>prom p.1).sum
theorem qeh (p:Prt) (f:List Prt):promL (p::f)=prom p.1+promL f:=by simp [promL]
theorem qft (f g:List Prt):promL (f++g)=promL f+promL g:=by simp [promL]
theorem promL_flat (t:Fm Trm):promL t.flat=proms t:=by
 induction t with
 | nul p=>simp [promL,Fm.flat,proms]
 | un p a ih=>rw [Fm.flat,qft,ih,proms,qeh];simp [promL]
 | bi p a b iha ihb=>rw [Fm.flat,qft,qft,iha,ihb,proms,qeh];simp [promL]
noncomputable abbrev pmR13 (f:List Prt):=R23 f
theorem qdv (f:List Prt) (hf:f.length≤100000):∀ (t i n:Nat) (out:List Int),i+t=f.length→t<n→out.length≤i→∃ l,pmR13 f n (.l0 i out)=some l∧l.length=out.length+promL (f.drop i)
 | t,i,0,out,hi,hn,ho=>by omega
 | 0,i,n+1,out,hi,hn,ho=>by
   show ∃ l,T23 Ops.std f _ some _=some l∧_
   unfold T23
   simp only [qam,qab]
   rw [if_neg (by omega),List.drop_eq_nil_of_le (by omega)]
   exact ⟨_,rfl,by simp [promL]⟩
 | t+1,i,n+1,out,hi,hn,ho=>by
   have hlt:i<f.length:=by omega
   have ih:=fun out ho=>qdv f hf t (i+1) n out (by omega) (by omega) ho
   show ∃ l,T23 Ops.std f _ some _=some l∧_
   unfold T23
   rw [qbj (Ty.dflt ty66) hlt,qeh]
   simp only [qam,qas,qaq,qau,qab,qak,mt,List.length_cons,List.length_nil,show IntKind.wrap IntKind.i64 ((i:Int)+1)=((i+1:Nat):Int) from qan (by omega)]
   generalize f.getD i (Ty.dflt ty66)=p
   have yes:∀ h:p.1=8∨p.1=9∨p.1=10,∃ l,pmR13 f n (.l0 ((i+1:Nat):Int) (out++[(i:Int)]))=some l∧l.length=out.length+(prom p.1+promL (f.drop (i+1))):=fun h=>by
    obtain ⟨l,l1,l2⟩:=ih (out++[(i:Int)]) (by simp;omega)
    exact ⟨l,l1,by rw [l2,prom,if_pos h];simp;omega⟩
   rw [if_pos (by omega),if_pos (by omega)]
   by_cases h8:p.1=8
   ·rw [if_pos h8,if_pos (by omega)];exact yes (by omega)
   rw [if_neg h8,if_pos (by omega)]
   by_cases h9:p.1=9
   ·rw [if_pos h9,if_pos (by omega)];exact yes (by omega)
   rw [if_neg h9,if_pos (by omega)]
   by_cases h10:p.1=10
   ·rw [if_pos h10,if_pos (by omega)];exact yes (by omega)
   rw [if_neg h10]
   obtain ⟨l,l1,l2⟩:=ih out (by omega)
   exact ⟨l,l1,by rw [l2,prom,if_neg (by omega)];omega⟩
theorem qfu (t:Fm Trm) (h60:t.size≤60):∃ l,M23 t.flat=some l∧l.length=proms t:=by
 have hl:=t.flat_len
 show ∃ l,T23 Ops.std t.flat (pmR13 t.flat 1000000) some none=some l∧_
 unfold T23
 obtain ⟨l,l1,l2⟩:=qdv t.flat (by omega) t.size 0 1000000 [] (by omega) (by omega) (by simp)
 exact ⟨l,l1,by rw [l2,List.drop_zero,promL_flat];simp⟩
theorem known15:M11=some true:=by kernel_rfl
theorem of_ok15 (s:List UInt8):∃ f:List Prt,M14 s=some f∧(f=[]∨(f.length≤24∧goodF f)):=by
 obtain ⟨e,x,f,h1,h2⟩:=parse_ok s
 refine ⟨f,?_,?_⟩
 ·show T14 Ops.std M45 s some=_
  unfold T14
  rw [h1,ob_s]
 ·rcases h2 with h | h
  ·exact .inl h
  ·exact .inr h.2
theorem qfv:rightF rightE []=false:=rfl
theorem nil_short:∀ p∈([]:List Prt),shortP p:=fun p h=>by cases h
section
variable (p0:List Int) (p1:Bool) (p2 p3:Int) (p4:List (List Int)) (p5 p6:List Int)
noncomputable abbrev mnR:=R3 M11 M12 M15 M14 M13 M16 M17 M18 M19 M20 M21 M22 M23 p0 p1 p2 p3 p4 p5 p6
theorem qc2 {A:Type} (val:Fm Trm→A) (d:A) (t:Fm Trm):(t.post val).getD (t.size-1) d=val t:=by
 have:=qby val d t [] []
 simpa using this
theorem mn_l0 (f g:Fm Trm) (vf vg:Fm Trm→List Bool) (n:Nat) (hn:n≤100) (o p:Nat→Bool) (hf:vf f=rowL n o) (hg:vg g=rowL n p) (h:∀ i,i<n→o i=p i) (hsf:f.size≤60) (hsg:g.size≤60) :
  ∀ (t i m:Nat),i+t=n→t<m→mnR p0 p1 p2 p3 p4 p5 p6 m (.l0 (n:Nat) (i:Nat) (f.post vf) (g.post vg))=some true
 | t,i,0,hi,hm=>by omega
 | 0,i,m+1,hi,hm=>by
   show T3 Ops.std _ _ _ _ _ _ _ _ _ _ _ _ _ p0 p1 p2 p3 p4 p5 p6 _ some _=_
   unfold T3
   simp only [qam,qab]
   rw [if_neg (by omega)]
 | t+1,i,m+1,hi,hm=>by
   have ih:=mn_l0 f g vf vg n hn o p hf hg h hsf hsg t (i+1) m (by omega) (by omega)
   have h1:=f.size_pos
   have h2:=g.size_pos
   have l1:=qba vf f
   have l2:=qba vg g
   have g1:=qc2 vf (Ty.dflt ty47) f
   have g2:=qc2 vg (Ty.dflt ty47) g
   have w1:IntKind.wrap IntKind.i64 ((f.size:Int)-1)=((f.size-1:Nat):Int):=by rw [wrap64 (by omega) (by omega)];omega
   have w2:IntKind.wrap IntKind.i64 ((g.size:Int)-1)=((g.size-1:Nat):Int):=by rw [wrap64 (by omega) (by omega)];omega
   have e1:=qef n o i (by omega)
   have e2:=qef n p i (by omega)
   unfold fnB at e1 e2
   show T3 Ops.std _ _ _ _ _ _ _ _ _ _ _ _ _ p0 p1 p2 p3 p4 p5 p6 _ some _=_
   unfold T3
   simp only [qam,qaq,qab,qak,l1,l2,w1,w2,g1,g2,hf,hg,qck]
   rw [if_pos (by omega),if_pos (by omega),if_pos (by omega),if_pos (by omega),if_pos (by omega),show IntKind.wrap IntKind.i64 ((i:Int)+1)=((i+1:Nat):Int) from qan (by omega)]
   have hq:(List.getD (rowL n o) i (Ty.dflt Ty.bool))=(List.getD (rowL n p) i (Ty.dflt Ty.bool)):=e1.trans ((h i (by omega)).trans e2.symm)
   rw [hq]
   simp only [beq_self_eq_true,Bool.not_true,cond_false]
   exact ih
theorem mn_1010 {vs:List Vrb} {ps:List Pcs} {ts:List Trn} (hR:M18 vs ps ts=some true) (hM:goodM vs ps) (hg:smallG vs ps) {t:Fm Trm} (ht:WF t) (hi:isT t=true) (h60:t.size≤60) (hk:knA vs ps ts t.flat=true) (m:Nat) (hm:100<m) :
  mnR p0 p1 p2 p3 p4 p5 p6 m (.l1010 t.flat vs ps ts (rwL t))=some true:=by
 obtain ⟨m,rfl⟩:∃ m',m=m'+1+1:=⟨m-2,by omega⟩
 have hrs:=qdq t
 have wr:WF (rwT t):=qgd ht
 have ir:=rwT_is ht hi
 have e1:rwL t=(rwT t).flat:=if_pos hi
 have s1:=t.size_pos
 have s2:=(rwT t).size_pos
 obtain ⟨w,hw,hok⟩:=Word_ok (ts:=ts) hM p5 p6
 obtain ⟨lp,lp1,lp2⟩:=qfu t h60
 obtain ⟨lq,lq1,lq2⟩:=qfu (rwT t) (by omega)
 have hpr:=rwT_proms t
 have hb:w.1.length<w.1.length+w.2.length:=by have:=hok.2.1;omega
 have hn:w.1.length+w.2.length≤12:=by have:=hok.1;have:=hok.2.2.1;omega
 have hsem:=sem_rw (n:=w.1.length+w.2.length) (back:=w.1.length) hb (valE vs ps ts (w.1++w.2)) ht hi
 have l1:=qba (allV vs ps ts w) t
 have l2:=qba (allV vs ps ts w) (rwT t)
 have g1:=qc2 (allV vs ps ts w) (Ty.dflt ty47) t
 rw [e1]
 show T3 Ops.std _ _ _ _ _ _ _ _ _ _ M21 _ _ p0 p1 p2 p3 p4 p5 p6 (mnR p0 p1 p2 p3 p4 p5 p6 (m+1)) some _=_
 unfold T3
 simp only [qam,qas,qab]
 rw [hw,ob_s,All_ok ts hR hM hg t ht h60 hk w hok,ob_s,All_ok ts hR hM hg (rwT t) wr (by omega) (knA_rw ts ht hk) w hok,ob_s,T_IsR wr (by omega),ob_s,ir]
 simp only [Bool.not_true,cond_false,Fm.flat_len]
 rw [if_neg (by omega),lq1,ob_s,lp1,ob_s,if_neg (by omega),l1,l2,if_neg (by omega),if_neg (by omega)]
 show T3 Ops.std _ _ _ _ _ _ _ _ _ _ _ _ _ p0 p1 p2 p3 p4 p5 p6 (mnR p0 p1 p2 p3 p4 p5 p6 m) some _=_
 unfold T3
 have w1:IntKind.wrap IntKind.i64 ((t.size:Int)-1)=((t.size-1:Nat):Int):=by rw [wrap64 (by omega) (by omega)];omega
 simp only [qaq,qab,qak,l1,w1,g1]
 rw [if_pos (by omega)]
 have hln:(allV vs ps ts w t).length=w.1.length+w.2.length:=qck _ _
 rw [hln]
 exact mn_l0 p0 p1 p2 p3 p4 p5 p6 t (rwT t) _ _ (w.1.length+w.2.length) (by omega) _ _ rfl rfl (fun i hi=>(hsem i hi).symm) h60 (by omega) (w.1.length+w.2.length) 0 m (by omega) (by omega)
end
theorem plainRewriteMeans (p0:List Int) (p1:Bool) (p2 p3:Int) (p4:List (List Int)) (p5 p6:List Int) (w0:Ty.wf ty22 p0) (w1:True) (w2:Ty.wf ty3 p2) (w3:Ty.wf ty3 p3) (w4:Ty.wf ty23 p4) (w5:Ty.wf ty22 p5) (w6:Ty.wf ty22 p6):M3 p0 p1 p2 p3 p4 p5 p6=some true:=by
 show T3 Ops.std M11 M12 M15 M14 M13 M16 M17 M18 M19 M20 M21 M22 M23 p0 p1 p2 p3 p4 p5 p6 (mnR p0 p1 p2 p3 p4 p5 p6 1000000) some none=_
 unfold T3
 obtain ⟨s,hs,_⟩:=formula_ok p0
 obtain ⟨f,hf,hf2⟩:=of_ok15 s
 obtain ⟨vs,ps,ts,hm,hsm⟩:=Model_ok p2 p3 p4
 rw [known15,hs,hm]
 simp only [ob_s,hf,Bool.not_true,cond_false,qas,qab]
 have kk:(ob M11 fun y=>some y)=some true:=by rw [known15,ob_s]
 rcases hf2 with h0 | ⟨h24,hgf⟩
 ·obtain ⟨n1,n2⟩:=N_NnfR (f:=[]) (by simp) nil_short qfv
  have n3:=N_RewriteP (f:=[]) (by simp) nil_short qfv
  obtain ⟨z,hz⟩:∃ z:List Prt,z=[]:=⟨_,rfl⟩
  have hl:((z.length:Nat):Int)=0:=by rw [hz];rfl
  rw [←hz] at n1 n2 n3 h0
  subst h0
  clear hz
  rw [n1,ob_s]
  cases p1 with
  | true=>simp only [cond_true];rw [n2,ob_s,n3,ob_s,if_pos hl]
  | false=>simp only [cond_false];rw [n3,ob_s,if_pos hl]
 ·obtain ⟨t,ht,rfl,h60⟩:=good_tree hgf (by omega)
  rw [t.flat_len] at h24
  have sz:=fun no=>qb6 t no
  have e:∀ no,nnfL t no=(nnfT t no).flat:=fun no=>if_pos (by have:=sz no;omega)
  have ln:∀ no,¬ (((nnfT t no).flat.length:Int)=0):=fun no=>by rw [Fm.flat_len];have:=(nnfT t no).size_pos;omega
  obtain ⟨r,hr,hgood⟩:=qdu (vs:=vs) (ps:=ps) (ts:=ts) hsm
  have key:∀ no,(ob (M18 vs ps ts) fun y=>cond (!y) (some true) (ob (M19 vs ps ts (nnfT t no).flat) fun y=>cond (!y) (some true) (mnR p0 p1 p2 p3 p4 p5 p6 1000000 (.l1010 (nnfT t no).flat vs ps ts (rwL (nnfT t no))))))=some true:=fun no=>by
   rw [hr,ob_s]
   cases r with
   | false=>rfl
   | true=>
     simp only [Bool.not_true,cond_false]
     have wf:=nnfT_wf (E:=rightE) ht no
     have h6:(nnfT t no).size≤60:=by have:=sz no;omega
     rw [qgn ts hsm.g (nnfT t no).flat (by rw [Fm.flat_len];exact h6) (wf_atm wf) (qc5 wf h6),ob_s]
     cases hk:knA vs ps ts (nnfT t no).flat with
     | false=>rfl
     | true=>
       simp only [Bool.not_true,cond_false]
       exact mn_1010 p0 p1 p2 p3 p4 p5 p6 hr (hgood rfl) hsm.g wf (nnfT_is ht no) h6 hk 1000000 (by omega)
  rw [T_NnfR ht h60,ob_s,e]
  cases p1 with
  | true=>
    simp only [cond_true]
    rw [T_NegateR ht h60,ob_s,e,qge (nnfT_wf ht true) (by have:=sz true;omega),ob_s,if_neg (ln true)]
    exact key true
  | false=>
    simp only [cond_false]
    rw [qge (nnfT_wf ht false) (by have:=sz false;omega),ob_s,if_neg (ln false)]
    exact key false
end Go.Proofs.YtccnmhdgghjgoaaGreatDoor.Av
