/- The plain law of ExprLaws: what its twin computes answers true. Conditions: none. -/
import Derived.Test.YtkmpkebaloejhaaDoorPExprLawsa
set_option linter.unusedSimpArgs false
set_option linter.unusedVariables false
set_option maxRecDepth 100000
namespace Go.Proofs.YtkmpkebaloejhaaDoor.Av
open Go
def zT (T:List TokS):Prop:=∀ t∈T,t.1≠1→t.2.2=0
theorem zT.app {s t:List TokS} (h1:zT s) (h2:zT t):zT (s++t):=fun x hx=>by
 rcases List.mem_append.1 hx with hx | hx
 ·exact h1 x hx
 ·exact h2 x hx
theorem zT.one {k n:Int} {w:List UInt8} (h:k=1∨n=0):zT [(k,w,n)]:=fun x hx hk=>by
 simp only [List.mem_singleton] at hx
 subst hx
 rcases h with rfl | rfl
 ·exact absurd rfl hk
 ·rfl
def TL (T:List TokS) (s:List UInt8):Prop:=hdOK s∧Bal T∧zT T∧∀ r,noWord r→LexTo s r T
theorem TL.bra {T:List TokS} {s:List UInt8} (h:TL T s):TL ((4,[40],0)::(T++[(4,[41],0)])) ([40]++s++[41]):=by
 refine ⟨⟨40,s++[41],rfl,by decide,by decide⟩,h.2.1.bra,(zT.one (.inr rfl)).app (h.2.2.1.app (zT.one (.inr rfl))),fun r hr=>?_⟩
 rw [List.append_assoc]
 exact (qdn (c:=40) _ (by simp)).app ((h.2.2.2 _ (noWord.cons rfl)).app (qdn (c:=41) r (by simp)))
theorem TL.un {T:List TokS} {s:List UInt8} {k:Int} (hk:k=4∨k=5) (h:TL T s):TL ((4,unW k,0)::T) (unW k++s):=
 ⟨by rcases hk with rfl | rfl<;>exact ⟨_,_,rfl,by decide,by decide⟩,(Bal.one (.inr (by rcases hk with rfl | rfl<;>decide))).app h.2.1,(zT.one (.inr rfl)).app h.2.2.1,fun r hr=>(lx_un hk (h.1.app r)).app (h.2.2.2 r hr)⟩
theorem bal_op {k:Int} (hk:6≤k∧k≤16):Bal [(4,opW k,0)]:=Bal.one (.inr (by
 rcases qcs hk with rfl | rfl | rfl | rfl | rfl | rfl | rfl | rfl | rfl | rfl | rfl<;>decide))
theorem TL.bin {T U:List TokS} {s t:List UInt8} {k:Int} (hk:6≤k∧k≤16) (h:TL T s) (h2:TL U t):TL (T++((4,opW k,0)::U)) (s++opW k++t):=by
 refine ⟨?_,h.2.1.app ((bal_op hk).app h2.2.1),h.2.2.1.app ((zT.one (.inr rfl)).app h2.2.2.1),fun r hr=>?_⟩
 ·rw [List.append_assoc];exact h.1.app _
 ·rw [List.append_assoc]
  refine (h.2.2.2 _ ?_).app ((lx_op hk (h2.1.app r)).app (h2.2.2.2 r hr))
  rw [List.append_assoc]
  exact noWord.op hk _
def Tx (s:List UInt8):Prop:=∃ T,TL T s
theorem Tx.bra {s:List UInt8} (h:Tx s):Tx ([40]++s++[41]):=by
 obtain ⟨T,h⟩:=h
 exact ⟨_,h.bra⟩
theorem Tx.un {s:List UInt8} {k:Int} (hk:k=4∨k=5) (h:Tx s):Tx (unW k++s):=by
 obtain ⟨T,h⟩:=h
 exact ⟨_,h.un hk⟩
theorem Tx.bin {s t:List UInt8} {k:Int} (h:Tx s) (h6:6≤k) (h7:k≤16) (h2:Tx t):Tx (s++opW k++t):=by
 obtain ⟨T,h⟩:=h
 obtain ⟨U,h2⟩:=h2
 exact ⟨_,h.bin ⟨h6,h7⟩ h2⟩
theorem lx_opb {k:Int} (hk:6≤k∧k≤16) (r:List UInt8):LexTo (opW k) (32::r) [(4,opW k,0)]:=lx_op hk ⟨32,r,rfl,by decide,by decide⟩
theorem Tx.binsp {s t:List UInt8} {k:Int} (h:Tx s) (h6:6≤k) (h7:k≤16) (h2:Tx t):Tx (s++[32]++opW k++[32]++t):=by
 obtain ⟨T,h⟩:=h
 obtain ⟨U,h2⟩:=h2
 have hk:6≤k∧k≤16:=⟨h6,h7⟩
 refine ⟨T++([]++([(4,opW k,0)]++([]++U))),?_,h.2.1.app ((bal_op hk).app h2.2.1),h.2.2.1.app ((zT.one (.inr rfl)).app h2.2.2.1),fun r hr=>?_⟩
 ·simp only [List.append_assoc];exact h.1.app _
 ·simp only [List.append_assoc]
  exact (h.2.2.2 _ (noWord.cons rfl)).app ((LexTo.blank (b:=32) rfl _).app ((lx_opb hk _).app ((LexTo.blank (b:=32) rfl _).app (h2.2.2.2 r hr))))
theorem TL.leaf {t:Trm} (h:nulT t) (h0:t.1=1∨True):TL (nulK t (leafW t)) (leafW t):=by
 refine ⟨leaf_hd h,De.bal (.nul t (leafW t)) h,?_,fun r hr=>leaf_lex h r hr⟩
 unfold nulK
 split
 ·exact zT.one (.inl rfl)
 ·split
  ·exact zT.one (.inr rfl)
  ·exact (zT.one (.inr rfl)).app ((zT.one (.inr rfl)).app (zT.one (.inr rfl)))
theorem Tx.leaf {t:Trm} (h:nulT t):Tx (leafW t):=⟨_,TL.leaf h (.inr trivial)⟩
theorem Tx.word {w:List UInt8} (h:isWordP w=true):Tx w:=by
 have:=Tx.leaf (t:=(2,0,w,[])) ⟨mayV h,.inr (.inl rfl)⟩
 exact this
theorem Tx.num {w:List UInt8} (hw:w≠[]) (hd:w.all digitP'=true) (hl:w.length≤3):Tx w:=
 ⟨[(1,w,valW w)],digits_hd hd hw,Bal.one (.inl (by show (1:Int)≠4;decide)),zT.one (.inl rfl),fun r hr=>qee r hw hd hl hr⟩
theorem tb_all {l:List (List UInt8)} {p:List UInt8→Bool} (h:l.all p=true) {j:Nat} (hj:j<l.length):p (l.getD (Int.toNat (j:Int)) [])=true:=by
 rw [qab]
 rw [List.getD_eq_getElem?_getD,List.getElem?_eq_getElem hj]
 exact List.all_eq_true.1 h _ (List.getElem_mem _)
theorem tb_word {l:List (List UInt8)} (h:l.all isWordP=true) {j:Nat} (hj:j<l.length):isWordP (l.getD (Int.toNat (j:Int)) [])=true:=tb_all h hj
theorem tb_num {l:List (List UInt8)} (h:l.all (fun w=>decide (w≠[]) && (w.all digitP' && decide (w.length≤3)))=true) {j:Nat} (hj:j<l.length):Tx (l.getD (Int.toNat (j:Int)) []):=by
 have:=tb_all h hj
 simp only [Bool.and_eq_true,decide_eq_true_eq] at this
 exact Tx.num this.1 this.2.1 this.2.2
theorem tb_op {l:List (List UInt8)} (h:l.all (fun w=>(List.range 11).any fun k=>decide (w=opW ((k:Int)+6)))=true) {j:Nat} (hj:j<l.length):∃ k:Int,6≤k∧k≤16∧l.getD (Int.toNat (j:Int)) []=opW k:=by
 have:=tb_all h hj
 simp only [List.any_eq_true,decide_eq_true_eq,List.mem_range] at this
 obtain ⟨k,h1,h2⟩:=this
 exact ⟨(k:Int)+6,by omega,by omega,h2⟩
def FOkX (l:List Int) (o:Option (List UInt8×List Int×Int)) (a b c:Nat):Prop:=∃ (s:List UInt8) (a':Nat),o=some (s,l,(a':Int))∧s.length≤b∧a≤a'∧a'≤a+c∧Tx s
theorem exprX_k (l:List Int) (deep:Int) (d:Nat) (l0:List Int) (a0:Int) (B A:Nat) (hB:B≤310) (hA:A≤93) (k:Nat) (hk:k<20) (V:Nat) (hV:V≤900) (hrec:k<14→∀ a:Nat,a≤V→FOkX l (Rec49 d (IntKind.wrap IntKind.i64 (deep+1)) l a) a B A) (a:Nat) (ha:a+A+5≤V) (n:Nat) :
  FOkX l (R49 M90 (Rec49 d) deep l0 a0 (n+1) (.l1004 k l a)) a (2*B+10) (2*A+2):=by
 show FOkX l (T49 Ops.std M90 (Rec49 d) deep l0 a0 _ some _) a _ _
 unfold T49
 simp only [qah,qan,qak,qbc,qaa,mt]
 by_cases h10:(k:Int)<10
 ·obtain ⟨s,a1,e1,e2,e3,e4,tx1⟩:=hrec (by omega) a (by omega)
  obtain ⟨s2,a2,f1,f2,f3,f4,tx2⟩:=hrec (by omega) a1 (by omega)
  rw [if_pos h10,e1,ob_s]
  dsimp only
  rw [f1,ob_s]
  dsimp only
  obtain ⟨j,a3,g1,g2,g3,g4⟩:=qdp l a2 (by omega) 11 11 rfl (by omega) (by omega)
  rw [g4,ob_s]
  dsimp only
  rw [if_pos (by omega)]
  obtain ⟨i,a4,i1,i2,i3,i4⟩:=qdp l a3 (by omega) 2 2 rfl (by omega) (by omega)
  rw [i4,ob_s]
  dsimp only
  have hlen:=qcu (n:=2) (l:=[[43],[45],[42],[60],[60,61],[61,61],[33,61],[38,38],[124,124],[62],[62,61]]) rfl (Int.toNat (j:Int))
  obtain ⟨kk,hk1,hk2,hk3⟩:=tb_op (l:=[[43],[45],[42],[60],[60,61],[61,61],[33,61],[38,38],[124,124],[62],[62,61]]) rfl (j:=j) (by show j<11;omega)
  generalize ([[43],[45],[42],[60],[60,61],[61,61],[33,61],[38,38],[124,124],[62],[62,61]]:List (List UInt8)).getD (Int.toNat (j:Int)) []=x at hlen hk3 ⊢
  subst hk3
  simp only [List.length_append,List.length_cons,List.length_nil]
  by_cases hi:(i:Int)=0
  ·rw [if_pos hi,if_pos (by omega),if_pos (by omega),if_pos (by omega),if_pos (by omega),if_pos (by omega),if_pos (by omega)]
   exact ⟨_,a4,rfl,by simp;omega,by omega,by omega,(by simpa using tx1.bra.bin hk1 hk2 tx2.bra)⟩
  ·rw [if_neg hi,if_pos (by omega),if_pos (by omega),if_pos (by omega),if_pos (by omega),if_pos (by omega),if_pos (by omega)]
   exact ⟨_,a4,rfl,by simp;omega,by omega,by omega,(by simpa using (tx1.binsp hk1 hk2 tx2).bra)⟩
 ·rw [if_neg h10]
  by_cases h:(k:Int)=10
  ·obtain ⟨s,a1,e1,e2,e3,e4,tx1⟩:=hrec (by omega) a (by omega)
   rw [if_pos h,e1,ob_s]
   dsimp only
   simp only [List.length_append,List.length_cons,List.length_nil]
   rw [if_pos (by omega),if_pos (by omega)]
   exact ⟨_,a1,rfl,by simp;omega,by omega,by omega,(by have h:=tx1.bra.un (k:=4) (.inl rfl);simpa [unW] using h)⟩
  ·rw [if_neg h]
   clear h
   by_cases h:(k:Int)=11
   ·obtain ⟨s,a1,e1,e2,e3,e4,tx1⟩:=hrec (by omega) a (by omega)
    rw [if_pos h,e1,ob_s]
    dsimp only
    simp only [List.length_append,List.length_cons,List.length_nil]
    rw [if_pos (by omega),if_pos (by omega)]
    exact ⟨_,a1,rfl,by simp;omega,by omega,by omega,(by have h:=tx1.bra.un (k:=5) (.inr rfl);simpa [unW] using h)⟩
   ·rw [if_neg h]
    clear h
    by_cases h:(k:Int)=12
    ·obtain ⟨s,a1,e1,e2,e3,e4,tx1⟩:=hrec (by omega) a (by omega)
     obtain ⟨s2,a2,f1,f2,f3,f4,tx2⟩:=hrec (by omega) a1 (by omega)
     rw [if_pos h,e1,ob_s]
     dsimp only
     rw [if_pos (by omega),f1,ob_s]
     dsimp only
     simp only [List.length_append,List.length_cons,List.length_nil]
     rw [if_pos (by omega)]
     exact ⟨_,a2,rfl,by simp;omega,by omega,by omega,(by have h:=tx1.bin (k:=7) (by omega) (by omega) tx2;simpa [opW] using h)⟩
    ·rw [if_neg h]
     clear h
     by_cases h:(k:Int)=13
     ·obtain ⟨s,a1,e1,e2,e3,e4,tx1⟩:=hrec (by omega) a (by omega)
      rw [if_pos h,e1,ob_s]
      dsimp only
      rw [if_pos (by omega)]
      exact ⟨_,a1,rfl,by simp;omega,by omega,by omega,(by have h:=(tx1.un (k:=4) (.inl rfl)).un (k:=4) (.inl rfl);simpa [unW] using h)⟩
     ·rw [if_neg h]
      clear h hrec
      have hnum:FOkX l (ob (M90 4 l a) fun y0=>if (0:Int)≤Prod.fst y0∧Prod.fst y0<(4:Int) then some (([[48],[49],[50],[48,48,55]]:List (List UInt8)).getD (Int.toNat (Prod.fst y0)) [],Prod.fst (Prod.snd y0),Prod.snd (Prod.snd y0)) else none) a (2*B+10) (2*A+2):=by
       obtain ⟨j,a3,g1,g2,g3,g4⟩:=qdp l a (by omega) 4 4 rfl (by omega) (by omega)
       rw [g4,ob_s]
       dsimp only
       rw [if_pos (by omega)]
       have hlen:=qcu (n:=3) (l:=[[48],[49],[50],[48,48,55]]) rfl (Int.toNat (j:Int))
       exact ⟨_,a3,rfl,by omega,by omega,by omega,(tb_num rfl (by show j<4;omega))⟩
      by_cases h:(k:Int)=14
      ·rw [if_pos h];exact hnum
      ·rw [if_neg h]
       clear h
       by_cases h:(k:Int)=15
       ·rw [if_pos h];exact hnum
       ·rw [if_neg h]
        clear h hnum
        by_cases h:(k:Int)=16
        ·rw [if_pos h]
         obtain ⟨j,a3,g1,g2,g3,g4⟩:=qdp l a (by omega) 2 2 rfl (by omega) (by omega)
         obtain ⟨i,a4,i1,i2,i3,i4⟩:=qdp l a3 (by omega) 3 3 rfl (by omega) (by omega)
         rw [g4,ob_s]
         dsimp only
         have hlen:=qcu (n:=1) (l:=[[112],[113],[114]]) rfl (Int.toNat (j:Int))
         have hlen2:=qcu (n:=1) (l:=[[97],[98],[99],[100]]) rfl (Int.toNat (i:Int))
         have hw1:=tb_word (l:=[[112],[113],[114]]) rfl (j:=j) (by show j<3;omega)
         have hw2:=tb_word (l:=[[97],[98],[99],[100]]) rfl (j:=i) (by show i<4;omega)
         generalize ([[112],[113],[114]]:List (List UInt8)).getD (Int.toNat (j:Int)) []=x at hlen hw1 ⊢
         rw [if_pos (by omega),if_pos (by omega),i4,ob_s]
         dsimp only
         generalize ([[97],[98],[99],[100]]:List (List UInt8)).getD (Int.toNat (i:Int)) []=y at hlen2 hw2 ⊢
         simp only [List.length_append,List.length_cons,List.length_nil]
         rw [if_pos (by omega),if_pos (by omega)]
         exact ⟨_,a4,rfl,by simp;omega,by omega,by omega,(by simpa [leafW] using Tx.leaf (t:=(3,0,x,y)) ⟨mayA hw1 hw2,.inr (.inr rfl)⟩)⟩
        ·rw [if_neg h]
         obtain ⟨j,a3,g1,g2,g3,g4⟩:=qdp l a (by omega) 2 2 rfl (by omega) (by omega)
         rw [g4,ob_s]
         dsimp only
         rw [if_pos (by omega)]
         have hlen:=qcu (n:=1) (l:=[[120],[121],[122]]) rfl (Int.toNat (j:Int))
         exact ⟨_,a3,rfl,by omega,by omega,by omega,(Tx.word (tb_word rfl (by show j<3;omega)))⟩
theorem exprX_h (l:List Int):∀ (h:Nat),h≤4→∀ (d:Nat),h<d→∀ (a:Nat),a≤800-150*h→FOkX l (Rec49 d ((4-h:Nat):Int) l a) a (eB h) (fA h):=by
 intro h
 induction h with
 | zero=>
   intro hh d hd a ha
   obtain ⟨e,rfl⟩:∃ e,d=e+1:=⟨d-1,by omega⟩
   show FOkX l (T49 Ops.std M90 (Rec49 e) ((4-0:Nat):Int) l a (R49 M90 (Rec49 e) ((4-0:Nat):Int) l a 1000000) some none) a _ _
   unfold T49
   obtain ⟨k,a1,e1,e2,e3,e4⟩:=qdp l a (by omega) 20 20 rfl (by omega) (by omega)
   rw [e4,ob_s]
   simp only [qah,qan,qaa]
   rw [if_pos (by omega),if_neg (by omega)]
   have ht:Int.tmod (k:Int) 6=((k % 6:Nat):Int):=by rw [show (6:Int)=((6:Nat):Int) from rfl,←Int.ofNat_tmod]
   rw [ht,show IntKind.wrap IntKind.i64 (14+((k % 6:Nat):Int))=((14+k % 6:Nat):Int) by rw [wrap64 (by omega) (by omega)];omega]
   have:=exprX_k l ((4-0:Nat):Int) e l (a:Int) 0 0 (by omega) (by omega) (14+k % 6) (by omega) 900 (by omega) (fun h=>by omega) a1 (by omega) 999999
   obtain ⟨s,a',g1,g2,g3,g4,tx⟩:=this
   exact ⟨s,a',g1,by simp [eB];omega,by omega,by simp [fA];omega,tx⟩
 | succ h ih=>
   intro hh d hd a ha
   obtain ⟨e,rfl⟩:∃ e,d=e+1:=⟨d-1,by omega⟩
   have hb:=eB_le h (by omega)
   have hb3:fA h≤45:=by
    have:h≤3:=by omega
    match h,this with
    | 0,_ | 1,_ | 2,_ | 3,_=>decide
   show FOkX l (T49 Ops.std M90 (Rec49 e) ((4-(h+1):Nat):Int) l a (R49 M90 (Rec49 e) ((4-(h+1):Nat):Int) l a 1000000) some none) a _ _
   unfold T49
   obtain ⟨k,a1,e1,e2,e3,e4⟩:=qdp l a (by omega) 20 20 rfl (by omega) (by omega)
   rw [e4,ob_s]
   simp only [qah,qan,qaa]
   rw [if_neg (by omega)]
   have hdeep:IntKind.wrap IntKind.i64 (((4-(h+1):Nat):Int)+1)=((4-h:Nat):Int):=by rw [wrap64 (by omega) (by omega)];omega
   have hrec:∀ a:Nat,a≤800-150*h→FOkX l (Rec49 e (IntKind.wrap IntKind.i64 (((4-(h+1):Nat):Int)+1)) l a) a (eB h) (fA h):=fun a ha=>by
    rw [hdeep];exact ih (by omega) e (by omega) a ha
   have step:=fun (k:Nat) (hk:k<20)=>exprX_k l ((4-(h+1):Nat):Int) e l (a:Int) (eB h) (fA h) (by omega) (by omega) k hk (800-150*h) (by omega) (fun _=>hrec) a1 (by omega) 999999
   have fin:∀ o,FOkX l o a1 (2*eB h+10) (2*fA h+2)→FOkX l o a (eB (h+1)) (fA (h+1)):=fun o ho=>by
    obtain ⟨s,a',g1,g2,g3,g4,tx⟩:=ho
    exact ⟨s,a',g1,by simp only [eB];omega,by omega,by simp only [fA];omega,tx⟩
   have ht:Int.tmod (k:Int) 6=((k % 6:Nat):Int):=by rw [show (6:Int)=((6:Nat):Int) from rfl,←Int.ofNat_tmod]
   split
   ·rw [if_neg (by omega),ht,show IntKind.wrap IntKind.i64 (14+((k % 6:Nat):Int))=((14+k % 6:Nat):Int) by rw [wrap64 (by omega) (by omega)];omega]
    exact fin _ (step (14+k % 6) (by omega))
   ·exact fin _ (step k e1)
theorem exprX_ok (l:List Int) (h:Nat) (hh:h≤4) (m:Int) (hm:m=((4-h:Nat):Int)) (a:Nat) (ha:a≤200):FOkX l (M49 m l a) a 310 93:=by
 subst hm
 have hb:=eB_le h hh
 obtain ⟨s,a',e1,e2,e3,e4,tx⟩:=exprX_h l h hh 1000000 (by omega) a (by omega)
 exact ⟨s,a',e1,by omega,e3,by omega,tx⟩
theorem ExprX_ok (l:List Int):∃ s:List UInt8,M16 l=some s∧s.length≤310∧Tx s:=by
 obtain ⟨s,a',e1,e2,e3,e4,tx⟩:=exprX_ok l 4 (by omega) 0 rfl 0 (by omega)
 refine ⟨s,?_,e2,tx⟩
 show T16 Ops.std M49 l some=_
 unfold T16
 have e1':M49 0 l 0=some (s,l,(a':Int)):=e1
 rw [e1',ob_s]
section
variable (p0 p1:Int) (p2:List (List Int))
end
def okL (L:Nat) (l:List (List UInt8)):Prop:=∀ w∈l,w.length≤L
theorem okL.app {L:Nat} {l:List (List UInt8)} {w:List UInt8} (h:okL L l) (hw:w.length≤L):okL L (l++[w]):=fun x hx=>by
 rcases List.mem_append.1 hx with hx | hx
 ·exact h x hx
 ·simp only [List.mem_singleton] at hx;rw [hx];exact hw
theorem okL.get {L:Nat} {l:List (List UInt8)} (h:okL L l) (k:Nat):(l.getD k []).length≤L:=by
 rw [List.getD_eq_getElem?_getD]
 by_cases hk:k<l.length
 ·rw [List.getElem?_eq_getElem hk];exact h _ (List.getElem_mem hk)
 ·rw [List.getElem?_eq_none (by omega)];simp
section
variable {l:List Tok} (hl:toksOK l)
end
section
variable {f:List Prt} {Run:Nat→Nat→List (List Int)→List Int→Option (List (List Int))} {E:List Trm→Bool}
end
section
variable (E:List Trm→Bool)
end
structure At (f:List Prt) (K:List (List Int)) (t:Fm Trm) (b:Nat):Prop where
 parts:∃ pre post,f=pre++t.flat++post∧pre.length=b
 kids:∃ pre post,K=pre++t.kids b++post∧pre.length=b
section
variable {f:List Prt} {K:List (List Int)} {b:Nat}
theorem At.len {t:Fm Trm} (h:At f K t b):b+t.size≤f.length∧b+t.size≤K.length:=by
 obtain ⟨⟨pre,post,h1,h2⟩,⟨kp,kq,h3,h4⟩⟩:=h
 constructor
 ·rw [h1];simp only [List.length_append,t.flat_len,h2];omega
 ·rw [h3];simp only [List.length_append,t.kids_len,h4];omega
theorem At.un {p:Prt} {a:Fm Trm} (h:At f K (.un p a) b):At f K a b:=by
 obtain ⟨⟨pre,post,h1,h2⟩,⟨kp,kq,h3,h4⟩⟩:=h
 exact ⟨⟨pre,[p]++post,by rw [h1];simp [Fm.flat],h2⟩,⟨kp,[[((b+a.size-1:Nat):Int)]]++kq,by rw [h3];simp [Fm.kids],h4⟩⟩
end
theorem At.all (t:Fm Trm):At t.flat (t.kids 0) t 0:=⟨⟨[],[],by simp,rfl⟩,⟨[],[],by simp,rfl⟩⟩
section
variable (f:List Prt) (K:List (List Int)) (i:Int) (no:Bool) (out:List Prt) (d n:Nat)
end
section
variable {E:List Trm→Bool}
end
section
variable {E:List Trm→Bool}
end
def shortP (p:Prt):Prop:=p.2.length≤30∧∀ t∈p.2,t.2.2.1.length≤8∧t.2.2.2.length≤8
def goodF (e:List Prt):Prop:=(∀ (r:List Prt) (d:Int),0≤d→rGo rightE (e++r) d=rGo rightE r (d+1))∧∀ p∈e,shortP p
theorem shortP.nil (k:Int):shortP (k,[]):=⟨by simp,by simp⟩
theorem badP_of {p:Prt} {d:Int} (h1:0≤opn p.1) (h2:opn p.1≤d) (h3:p.1=3→rightE p.2=true) (h4:p.1≠3→p.2=[]):badP rightE p d=false:=by
 unfold badP
 by_cases h:p.1=3
 ·rw [h] at h1 h2
  simp [h,h3 h];omega
 ·simp [h,h4 h];omega
theorem goodF.nul {p:Prt} (ho:opn p.1=0) (h3:p.1=3→rightE p.2=true) (h4:p.1≠3→p.2=[]) (hs:shortP p):goodF [p]:=by
 refine ⟨fun r d hd=>?_,by simpa using hs⟩
 simp only [List.cons_append,List.nil_append,rGo,badP_of (by omega) (by omega:opn p.1≤d) h3 h4,ho]
 simp
theorem goodF.un {e:List Prt} {k:Int} (he:goodF e) (ho:opn k=1):goodF (e++[(k,[])]):=by
 refine ⟨fun r d hd=>?_,fun p hp=>?_⟩
 ·rw [List.append_assoc,he.1 _ d hd]
  have hk:k≠3:=ne3 ho (by omega)
  have hb:badP rightE ((k,[]):Prt) (d+1)=false:=badP_of (p:=(k,[])) (by show 0≤opn k;omega) (by show opn k≤d+1;omega) (fun h=>absurd h hk) (fun _=>rfl)
  simp only [List.cons_append,List.nil_append,rGo,hb,ho]
  simp
 ·rcases List.mem_append.1 hp with h | h
  ·exact he.2 p h
  ·simp at h;subst h;exact shortP.nil k
theorem goodF.bi {e e2:List Prt} {k:Int} (he:goodF e) (he2:goodF e2) (ho:opn k=2):goodF (e++e2++[(k,[])]):=by
 refine ⟨fun r d hd=>?_,fun p hp=>?_⟩
 ·rw [List.append_assoc,List.append_assoc,he.1 _ d hd,he2.1 _ (d+1) (by omega)]
  have hk:k≠3:=ne3 ho (by omega)
  have hb:badP rightE ((k,[]):Prt) (d+1+1)=false:=badP_of (p:=(k,[])) (by show 0≤opn k;omega) (by show opn k≤d+1+1;omega) (fun h=>absurd h hk) (fun _=>rfl)
  simp only [List.cons_append,List.nil_append,rGo,hb,ho]
  simp;congr 1;omega
 ·rcases List.mem_append.1 hp with h | h
  ·rcases List.mem_append.1 h with h | h
   ·exact he.2 p h
   ·exact he2.2 p h
  ·simp at h;subst h;exact shortP.nil k
theorem goodF.right {e:List Prt} (h:goodF e) (hl:e.length≤60):rightF rightE e=true:=by
 have:=h.1 [] 0 (by omega)
 rw [List.append_nil] at this
 unfold rightF
 rw [this]
 simp [rGo,hl]
theorem eGo_may:∀ (e:List Trm) (d n:Int),eGo e d=some n→∀ t∈e,mayT t=true
 | [],d,n,h,t,ht=>by simp at ht
 | p::r,d,n,h,t,ht=>by
   simp only [eGo] at h
   split at h
   ·cases h
   ·rename_i hc
    simp only [Bool.or_eq_true,Bool.not_eq_true',not_or,Bool.not_eq_false] at hc
    rcases List.mem_cons.1 ht with rfl | ht
    ·exact hc.1
    ·exact eGo_may r _ n h t ht
theorem word_len {w:List UInt8} (h:isWordP w=true):w.length≤8:=by
 cases w with
 | nil=>simp
 | cons b r=>
   simp only [isWordP,Bool.and_eq_true,decide_eq_true_eq] at h
   simpa using h.2
theorem may_len {t:Trm} (h:mayT t=true):t.2.2.1.length≤8∧t.2.2.2.length≤8:=by
 unfold mayT at h
 split at h
 ·simp only [Bool.and_eq_true,beq_iff_eq] at h
  rw [h.1.2,h.2];simp
 ·split at h
  ·simp only [Bool.and_eq_true,beq_iff_eq] at h
   rw [h.2];exact ⟨word_len h.1.2,by simp⟩
  ·split at h
   ·simp only [Bool.and_eq_true] at h
    exact ⟨word_len h.1.2,word_len h.2⟩
   ·simp only [Bool.and_eq_true,beq_iff_eq] at h
    rw [h.1.2,h.2];simp
theorem rightE_short {e:List Trm} (h:rightE e=true):e.length≤30∧∀ t∈e,t.2.2.1.length≤8∧t.2.2.2.length≤8:=by
 unfold rightE fin30 at h
 cases hg:eGo e 0 with
 | none=>rw [hg] at h;cases h
 | some d=>
   rw [hg] at h
   simp only [Bool.and_eq_true,decide_eq_true_eq] at h
   exact ⟨h.2,fun t ht=>may_len (eGo_may e 0 d hg t ht)⟩
def shortE (f:List Trm):Prop:=f.length≤30∧∀ t∈f,t.2.2.1.length≤8∧t.2.2.2.length≤8
theorem shortE.of {f:List Trm} (h:rightE f=true):shortE f:=rightE_short h
theorem shortE.small {f:List Trm} (h:shortE f):smallE f:=⟨by have:=h.1;omega,fun t ht=>by have:=h.2 t ht;omega⟩
theorem shortE.rtR {f:List Trm} (h:shortE f):M36 f=some (rightE f):=rightE_ref f h.small (by have:=h.1;omega)
abbrev Eff:=List UInt8×List Trm
def okEf (x:Eff):Prop:=x.1.length≤8∧rightE x.2=true
theorem may_num {t:Trm} (h:mayT t=true) (h1:t.1=1):0≤t.2.1∧t.2.1≤999:=by
 unfold mayT at h
 simp [h1] at h
 omega
abbrev Sd:=List UInt8×Int
def okS (L:Nat) (st:List Sd):Prop:=∀ x∈st,x.1.length≤L
theorem okS.mono {L L':Nat} {st:List Sd} (h:okS L st) (hl:L≤L'):okS L' st:=fun x hx=>Nat.le_trans (h x hx) hl
theorem okS.app {L:Nat} {st:List Sd} {x:Sd} (h:okS L st) (hx:x.1.length≤L):okS L (st++[x]):=fun y hy=>by
 rcases List.mem_append.1 hy with hy | hy
 ·exact h y hy
 ·simp only [List.mem_singleton] at hy;rw [hy];exact hx
theorem okS.take {L:Nat} {st:List Sd} (h:okS L st) (k:Nat):okS L (st.take k):=fun y hy=>h y (List.mem_of_mem_take hy)
theorem okS.get {L:Nat} {st:List Sd} (h:okS L st) (k:Nat) (hk:k<st.length) (d:Sd):(st.getD k d).1.length≤L:=by
 rw [List.getD_eq_getElem?_getD,List.getElem?_eq_getElem hk];exact h _ (List.getElem_mem hk)
theorem okEf.short {x:Eff} (h:okEf x):shortE x.2:=shortE.of h.2
abbrev Trn:=Int×List UInt8×List UInt8×List UInt8×List UInt8×List Trm×List Eff
def okTr (t:Trn):Prop:=t.2.1.length≤60000∧t.2.2.1.length≤60000∧t.2.2.2.1.length≤60000∧t.2.2.2.2.1.length≤60000∧shortE t.2.2.2.2.2.1∧t.2.2.2.2.2.2.length≤100000∧∀ x∈t.2.2.2.2.2.2,okEf x
abbrev Vrb:=List UInt8×Int×Int×Int
abbrev Pcs:=List UInt8×List (List UInt8)
section
variable (vs:List Vrb) (ps:List Pcs) (ts:List Trn)
theorem qdq (hp:ps.length≤100000) (s:List UInt8):∀ (t i n:Nat),i+t=ps.length→t<n→∃ r,R75 vs ps ts s n (.l0 i)=some r∧(r = -1∨∃ k:Nat,k<ps.length∧r=(k:Int))
 | t,i,0,hi,hn=>by omega
 | 0,i,n+1,hi,hn=>by
   show ∃ r,T75 Ops.std vs ps ts s _ some _=some r∧_
   unfold T75
   simp only [qah,qaa]
   rw [if_neg (by omega)]
   exact ⟨_,rfl,.inl rfl⟩
 | t+1,i,n+1,hi,hn=>by
   have ih:=qdq hp s t (i+1) n (by omega) (by omega)
   show ∃ r,T75 Ops.std vs ps ts s _ some _=some r∧_
   unfold T75
   simp only [qah,qak,qaa,qab,show IntKind.wrap IntKind.i64 ((i:Int)+1)=((i+1:Nat):Int) from qai (by omega)]
   rw [if_pos (by omega),if_pos (by omega)]
   cases (ps.getD i (Ty.dflt ty73)).1 == s with
   | true=>exact ⟨_,rfl,.inr ⟨i,by omega,rfl⟩⟩
   | false=>exact ih
theorem qdf (hp:ps.length≤100000) (s:List UInt8):∃ r,M75 vs ps ts s=some r∧(r = -1∨∃ k:Nat,k<ps.length∧r=(k:Int)):=by
 show ∃ r,T75 Ops.std vs ps ts s (R75 vs ps ts s 1000000) some none=some r∧_
 unfold T75
 exact qdq vs ps ts hp s ps.length 0 1000000 (by omega) (by omega)
theorem qcv (hv:vs.length≤100000) (s:List UInt8):∀ (t i n:Nat),i+t=vs.length→t<n→∃ r,R74 vs ps ts s n (.l0 i)=some r∧(r = -1∨∃ k:Nat,k<vs.length∧r=(k:Int))
 | t,i,0,hi,hn=>by omega
 | 0,i,n+1,hi,hn=>by
   show ∃ r,T74 Ops.std vs ps ts s _ some _=some r∧_
   unfold T74
   simp only [qah,qaa]
   rw [if_neg (by omega)]
   exact ⟨_,rfl,.inl rfl⟩
 | t+1,i,n+1,hi,hn=>by
   have ih:=qcv hv s t (i+1) n (by omega) (by omega)
   show ∃ r,T74 Ops.std vs ps ts s _ some _=some r∧_
   unfold T74
   simp only [qah,qak,qaa,qab,show IntKind.wrap IntKind.i64 ((i:Int)+1)=((i+1:Nat):Int) from qai (by omega)]
   rw [if_pos (by omega),if_pos (by omega)]
   cases (vs.getD i (Ty.dflt ty108)).1 == s with
   | true=>exact ⟨_,rfl,.inr ⟨i,by omega,rfl⟩⟩
   | false=>exact ih
theorem qcj (hv:vs.length≤100000) (s:List UInt8):∃ r,M74 vs ps ts s=some r∧(r = -1∨∃ k:Nat,k<vs.length∧r=(k:Int)):=by
 show ∃ r,T74 Ops.std vs ps ts s (R74 vs ps ts s 1000000) some none=some r∧_
 unfold T74
 exact qcv vs ps ts hv s vs.length 0 1000000 (by omega) (by omega)
def okLocs (ps:List Pcs):Prop:=∀ p∈ps,p.2.length≤100000
theorem okLocs.get {ps:List Pcs} (h:okLocs ps) (k:Nat) (hk:k<ps.length):(ps.getD k (Ty.dflt ty73)).2.length≤100000:=by
 rw [List.getD_eq_getElem?_getD,List.getElem?_eq_getElem hk];exact h _ (List.getElem_mem hk)
theorem qe2 (hl:okLocs ps) (p:Nat) (hp:p<ps.length) (s:List UInt8):∀ (t i n:Nat),i+t=(ps.getD p (Ty.dflt ty73)).2.length→t<n→∃ r,R77 vs ps ts p s n (.l0 i)=some r∧(r = -1∨∃ k:Nat,k<(ps.getD p (Ty.dflt ty73)).2.length∧r=(k:Int))
 | t,i,0,hi,hn=>by omega
 | 0,i,n+1,hi,hn=>by
   show ∃ r,T77 Ops.std vs ps ts p s _ some _=some r∧_
   unfold T77
   simp only [qah,qak,qaa,qab]
   rw [if_pos (by omega),if_neg (by omega)]
   exact ⟨_,rfl,.inl rfl⟩
 | t+1,i,n+1,hi,hn=>by
   have ih:=qe2 hl p hp s t (i+1) n (by omega) (by omega)
   have hg:=hl.get p hp
   show ∃ r,T77 Ops.std vs ps ts p s _ some _=some r∧_
   unfold T77
   simp only [qah,qak,qaa,qab,show IntKind.wrap IntKind.i64 ((i:Int)+1)=((i+1:Nat):Int) from qai (by omega)]
   rw [if_pos (by omega),if_pos (by omega),if_pos (by omega),if_pos (by omega)]
   generalize ((ps.getD p (Ty.dflt ty73)).2.getD i (Ty.dflt Ty.str) == s)=b
   cases b with
   | true=>exact ⟨_,rfl,.inr ⟨i,by omega,rfl⟩⟩
   | false=>exact ih
theorem place_ok (hl:okLocs ps) (p:Int) (hp:p = -1∨∃ k:Nat,k<ps.length∧p=(k:Int)) (s:List UInt8):∃ r,M77 vs ps ts p s=some r∧(0≤r→∃ q:Nat,q<ps.length∧p=(q:Int)):=by
 show ∃ r,T77 Ops.std vs ps ts p s (R77 vs ps ts p s 1000000) some none=some r∧_
 unfold T77
 simp only [qah,qaa]
 rcases hp with rfl | ⟨k,hk,rfl⟩
 ·rw [if_pos (by decide)];exact ⟨_,rfl,fun h=>by omega⟩
 ·rw [if_neg (by omega)]
  obtain ⟨r,h1,h2⟩:=qe2 vs ps ts hl k hk s (ps.getD k (Ty.dflt ty73)).2.length 0 1000000 (by omega) (by have:=hl.get k hk;omega)
  exact ⟨r,h1,fun _=>⟨k,hk,rfl⟩⟩
structure smallG:Prop where
 v:vs.length≤100000
 p:ps.length≤100000
 l:okLocs ps
variable {vs ps}
def knE (vs:List Vrb) (ps:List Pcs) (ts:List Trn) (t:Trm):Prop:=
 (t.1=2→∃ k:Nat,k<vs.length∧M74 vs ps ts t.2.2.1=some (k:Int))∧
 (t.1=3→∃ (q:Nat) (r:Int),q<ps.length∧M75 vs ps ts t.2.2.1=some (q:Int)∧M77 vs ps ts (q:Int) t.2.2.2=some r)
theorem qe3 (hg:smallG vs ps) (e:List Trm) (he:shortE e):∀ (t i n:Nat),i+t=e.length→t<n→(∀ x∈e.take i,knE vs ps ts x)→∃ b,R37 M74 M75 M77 M36 vs ps ts e n (.l0 i)=some b∧(b=true→rightE e=true∧∀ x∈e,knE vs ps ts x)
 | t,i,0,hi,hn,hk=>by omega
 | 0,i,n+1,hi,hn,hk=>by
   show ∃ b,T37 Ops.std _ _ _ _ vs ps ts e _ some _=some b∧_
   unfold T37
   simp only [qah,qaa]
   rw [if_neg (by omega),he.rtR,ob_s]
   refine ⟨_,rfl,fun h=>⟨h,?_⟩⟩
   rwa [List.take_of_length_le (by omega)] at hk
 | t+1,i,n+1,hi,hn,hk=>by
   have ih:=qe3 hg e he t (i+1) n (by omega) (by omega)
   have h30:=he.1
   obtain ⟨x,hx⟩:∃ x,e.getD i (Ty.dflt ty56)=x:=⟨_,rfl⟩
   have htk:e.take (i+1)=e.take i++[x]:=by
    rw [List.take_succ_eq_append_getElem (by omega)]
    rw [List.getD_eq_getElem?_getD,List.getElem?_eq_getElem (by omega)] at hx
    rw [←hx];rfl
   have nxt:knE vs ps ts x→∀ y∈e.take (i+1),knE vs ps ts y:=fun h y hy=>by
    rw [htk] at hy
    rcases List.mem_append.1 hy with hy | hy
    ·exact hk y hy
    ·simp only [List.mem_singleton] at hy;rw [hy];exact h
   show ∃ b,T37 Ops.std _ _ _ _ vs ps ts e _ some _=some b∧_
   unfold T37
   simp only [qah,qak,qan,qaa,qab,hx,show IntKind.wrap IntKind.i64 ((i:Int)+1)=((i+1:Nat):Int) from qai (by omega)]
   rw [if_pos (by omega),if_pos (by omega)]
   obtain ⟨r,r1,r2⟩:=qcj vs ps ts hg.v x.2.2.1
   obtain ⟨q,q1,q2⟩:=qdf vs ps ts hg.p x.2.2.1
   obtain ⟨z,z1,z2⟩:=place_ok vs ps ts hg.l q q2 x.2.2.2
   by_cases h2:x.1=2
   ·rw [if_pos h2,if_pos (by omega),r1,ob_s]
    by_cases hr:r<0
    ·rw [if_pos hr];exact ⟨_,rfl,fun h=>by cases h⟩
    ·rw [if_neg hr,if_pos (by omega),if_neg (by omega)]
     refine ih (nxt ⟨fun _=>?_,fun h=>by omega⟩)
     rcases r2 with rfl | ⟨k,hk1,rfl⟩
     ·omega
     ·exact ⟨k,hk1,r1⟩
   ·rw [if_neg h2,if_pos (by omega)]
    by_cases h3:x.1=3
    ·rw [if_pos h3,if_pos (by omega),if_pos (by omega),q1,ob_s,z1,ob_s]
     by_cases hz:z<0
     ·rw [if_pos hz];exact ⟨_,rfl,fun h=>by cases h⟩
     ·rw [if_neg hz]
      obtain ⟨q',hq',rfl⟩:=z2 (by omega)
      exact ih (nxt ⟨fun h=>by omega,fun _=>⟨q',z,hq',q1,z1⟩⟩)
    ·rw [if_neg h3]
     exact ih (nxt ⟨fun h=>absurd h h2,fun h=>absurd h h3⟩)
theorem known_ok (hg:smallG vs ps) (e:List Trm) (he:shortE e):∃ b,M37 vs ps ts e=some b∧(b=true→rightE e=true∧∀ x∈e,knE vs ps ts x):=by
 show ∃ b,T37 Ops.std M74 M75 M77 M36 vs ps ts e (R37 M74 M75 M77 M36 vs ps ts e 1000000) some none=some b∧_
 unfold T37
 exact qe3 ts hg e he e.length 0 1000000 (by omega) (by have:=he.1;omega) (fun x h=>by simp at h)
end
theorem qef {α:Type} {l:List α} {i:Nat} (hi:i<l.length) (d:α):l.getD i d∈l:=by
 rw [List.getD_eq_getElem?_getD,List.getElem?_eq_getElem hi];exact List.getElem_mem hi
structure smallM (vs:List Vrb) (ps:List Pcs) (ts:List Trn):Prop where
 vl:vs.length≤5001
 v:∀ v∈vs,v.1.length≤60000
 pl:ps.length≤5001
 p:∀ p∈ps,p.1.length≤60000∧p.2.length≤60001∧okL 60000 p.2
 tl:ts.length≤5001
 t:∀ t∈ts,okTr t
theorem smallM.g {vs:List Vrb} {ps:List Pcs} {ts:List Trn} (h:smallM vs ps ts):smallG vs ps:=⟨by have:=h.vl;omega,by have:=h.pl;omega,fun p hp=>by have:=(h.p p hp).2.1;omega⟩
section
variable {vs:List Vrb} {ps:List Pcs} {ts:List Trn} (hM:smallM vs ps ts)
end
noncomputable def knB (vs:List Vrb) (ps:List Pcs) (ts:List Trn) (e:List Trm):Bool:=(M37 vs ps ts e).getD false
theorem qdg (n:Int):∃ v,M73 n=some v:=⟨_,rfl⟩
theorem qdh (b:Bool):∃ v,M76 b=some v:=by cases b<;>exact ⟨_,rfl⟩
theorem two_some (op a b:Int):∃ v,M78 op a b=some v:=by
 show ∃ v,T78 Ops.std M73 M76 op a b some=some v
 unfold T78
 simp only [qan,qaa]
 have hb:∀ n:Int,∃ v,(ob (M73 n) fun y=>some y)=some v:=fun n=>by obtain ⟨v,h⟩:=qdg n;exact ⟨v,by rw [h,ob_s]⟩
 have ht:∀ n:Bool,∃ v,(ob (M76 n) fun y=>some y)=some v:=fun n=>by obtain ⟨v,h⟩:=qdh n;exact ⟨v,by rw [h,ob_s]⟩
 have hc:∀ q x y:Bool,∃ v,(cond q (ob (M76 x) fun y=>some y) (ob (M76 y) fun y=>some y))=some v:=fun q x y=>by
  cases q
  ·exact ht y
  ·exact ht x
 repeat' (first | exact hb _ | exact ht _ | exact hc _ _ _ | split)
section
variable {vs:List Vrb} {ps:List Pcs} {ts:List Trn}
noncomputable abbrev evR (vs:List Vrb) (ps:List Pcs) (ts:List Trn) (s1 s2:List Int) (e:List Trm):=R34 M37 M74 M73 M75 M77 M76 M78 vs ps ts s1 s2 e
end
section
variable {vs:List Vrb} {ps:List Pcs} (ts:List Trn)
noncomputable abbrev ixV (vs:List Vrb):=R109 M110 vs
theorem ixV_loop (hv:vs.length≤100000) (s:List UInt8):∀ (t i n:Nat),i+t=vs.length→t<n→∃ r,ixV vs s n (.l0 (vs.length:Nat) i s)=some (r,s)∧R74 vs ps ts s n (.l0 i)=some r
 | t,i,0,hi,hn=>by omega
 | 0,i,n+1,hi,hn=>by
   show ∃ r,T109 Ops.std _ vs s _ some _=some (r,s)∧T74 Ops.std vs ps ts s _ some _=some r
   unfold T109 T74
   simp only [qah,qaa]
   rw [if_neg (by omega),if_neg (by omega)]
   exact ⟨_,rfl,rfl⟩
 | t+1,i,n+1,hi,hn=>by
   have ih:=ixV_loop hv s t (i+1) n (by omega) (by omega)
   have hc:∀ v:Vrb,M110 v.1 v.2.1 v.2.2.1 v.2.2.2 s=some (v.1 == s,s):=fun v=>rfl
   show ∃ r,T109 Ops.std _ vs s _ some _=some (r,s)∧T74 Ops.std vs ps ts s _ some _=some r
   unfold T109 T74
   simp only [qah,qak,qaa,qab,show IntKind.wrap IntKind.i64 ((i:Int)+1)=((i+1:Nat):Int) from qai (by omega)]
   rw [if_pos (by omega),if_pos (by omega),if_pos (by omega),if_pos (by omega),hc,ob_s]
   dsimp only
   cases (vs.getD i (Ty.dflt ty108)).1 == s with
   | true=>exact ⟨_,rfl,rfl⟩
   | false=>exact ih
theorem qeg (hv:vs.length≤100000) (s:List UInt8):M68 vs ps ts s=M74 vs ps ts s:=by
 obtain ⟨r,h1,h2⟩:=ixV_loop (ps:=ps) ts hv s vs.length 0 1000000 (by omega) (by omega)
 have e1:M109 vs s=some (r,s):=by
  show T109 Ops.std M110 vs s (ixV vs s 1000000) some none=_
  unfold T109
  exact h1
 have e2:M74 vs ps ts s=some r:=by
  show T74 Ops.std vs ps ts s (R74 vs ps ts s 1000000) some none=_
  unfold T74
  exact h2
 show T68 Ops.std M110 M109 vs ps ts s some=_
 unfold T68
 rw [e1,ob_s,e2]
noncomputable abbrev ixP (ps:List Pcs):=R111 M112 ps
theorem ixP_loop (hv:ps.length≤100000) (s:List UInt8):∀ (t i n:Nat),i+t=ps.length→t<n→∃ r,ixP ps s n (.l0 (ps.length:Nat) i s)=some (r,s)∧R75 vs ps ts s n (.l0 i)=some r
 | t,i,0,hi,hn=>by omega
 | 0,i,n+1,hi,hn=>by
   show ∃ r,T111 Ops.std _ ps s _ some _=some (r,s)∧T75 Ops.std vs ps ts s _ some _=some r
   unfold T111 T75
   simp only [qah,qaa]
   rw [if_neg (by omega),if_neg (by omega)]
   exact ⟨_,rfl,rfl⟩
 | t+1,i,n+1,hi,hn=>by
   have ih:=ixP_loop hv s t (i+1) n (by omega) (by omega)
   have hc:∀ v:Pcs,M112 v.1 v.2 s=some (v.1 == s,s):=fun v=>rfl
   show ∃ r,T111 Ops.std _ ps s _ some _=some (r,s)∧T75 Ops.std vs ps ts s _ some _=some r
   unfold T111 T75
   simp only [qah,qak,qaa,qab,show IntKind.wrap IntKind.i64 ((i:Int)+1)=((i+1:Nat):Int) from qai (by omega)]
   rw [if_pos (by omega),if_pos (by omega),if_pos (by omega),if_pos (by omega),hc,ob_s]
   dsimp only
   cases (ps.getD i (Ty.dflt ty73)).1 == s with
   | true=>exact ⟨_,rfl,rfl⟩
   | false=>exact ih
theorem ixS_loop (hl:okLocs ps) (p:Nat) (hp:p<ps.length) (s:List UInt8):∀ (t i n:Nat),i+t=(ps.getD p (Ty.dflt ty73)).2.length→t<n→
  R113 (ps.getD p (Ty.dflt ty73)).2 s n (.l0 ((ps.getD p (Ty.dflt ty73)).2.length:Nat) i)=R77 vs ps ts p s n (.l0 i)
 | t,i,0,hi,hn=>by omega
 | 0,i,n+1,hi,hn=>by
   show T113 Ops.std _ s _ some _=T77 Ops.std vs ps ts p s _ some _
   unfold T113 T77
   simp only [qah,qak,qaa,qab]
   rw [if_neg (by omega),if_pos (by omega),if_neg (by omega)]
 | t+1,i,n+1,hi,hn=>by
   have ih:=ixS_loop hl p hp s t (i+1) n (by omega) (by omega)
   have hg:=hl.get p hp
   show T113 Ops.std _ s _ some _=T77 Ops.std vs ps ts p s _ some _
   unfold T113 T77
   simp only [qah,qak,qaa,qab,show IntKind.wrap IntKind.i64 ((i:Int)+1)=((i+1:Nat):Int) from qai (by omega)]
   rw [if_pos (by omega),if_pos (by omega),if_pos (by omega),if_pos (by omega),if_pos (by omega),if_pos (by omega)]
   rw [show (s == (ps.getD p (Ty.dflt ty73)).2.getD i (Ty.dflt Ty.str))=((ps.getD p (Ty.dflt ty73)).2.getD i (Ty.dflt Ty.str) == s) from Bool.beq_comm]
   generalize ((ps.getD p (Ty.dflt ty73)).2.getD i (Ty.dflt Ty.str) == s)=b
   cases b with
   | true=>rfl
   | false=>exact ih
theorem place_eq (hg:smallG vs ps) (s l:List UInt8):∃ q r,M75 vs ps ts s=some q∧M77 vs ps ts q l=some r∧M69 vs ps ts s l=some (q,r):=by
 obtain ⟨q,h1,h2⟩:=ixP_loop (vs:=vs) ts hg.p s ps.length 0 1000000 (by omega) (by have:=hg.p;omega)
 have e1:M111 ps s=some (q,s):=by
  show T111 Ops.std M112 ps s (ixP ps s 1000000) some none=_
  unfold T111
  exact h1
 have e2:M75 vs ps ts s=some q:=by
  show T75 Ops.std vs ps ts s (R75 vs ps ts s 1000000) some none=_
  unfold T75
  exact h2
 obtain ⟨q',q1,q2⟩:=qdf vs ps ts hg.p s
 have:q'=q:=by rw [e2] at q1;exact (Option.some.inj q1).symm
 subst this
 obtain ⟨r,r1,_⟩:=place_ok vs ps ts hg.l q' q2 l
 refine ⟨q',r,e2,r1,?_⟩
 show T69 Ops.std M112 M111 M113 vs ps ts s l some=_
 unfold T69
 rw [e1,ob_s]
 simp only [qah,qak,qaa]
 rcases q2 with rfl | ⟨k,hk,rfl⟩
 ·rw [if_pos (by omega)]
  have:M77 vs ps ts (-1) l=some (-1):=by
   show T77 Ops.std vs ps ts (-1) l (R77 vs ps ts (-1) l 1000000) some none=_
   unfold T77
   simp only [qah,qaa]
   rw [if_pos (by omega)]
  rw [this] at r1
  rw [←Option.some.inj r1]
 ·rw [if_neg (by omega),if_pos (by omega),qab]
  have e3:M113 (ps.getD k (Ty.dflt ty73)).2 l=M77 vs ps ts (k:Int) l:=by
   show T113 Ops.std (ps.getD k (Ty.dflt ty73)).2 l (R113 (ps.getD k (Ty.dflt ty73)).2 l 1000000) some none=T77 Ops.std vs ps ts (k:Int) l (R77 vs ps ts (k:Int) l 1000000) some none
   unfold T113 T77
   simp only [qah,qaa]
   rw [if_neg (by omega)]
   exact ixS_loop (vs:=vs) ts hg.l k hk l _ 0 1000000 (Nat.zero_add _) (by have:=hg.l.get k hk;omega)
  rw [e3,r1,ob_s]
noncomputable abbrev kxP (vs:List Vrb) (ps:List Pcs) (ts:List Trn) (e:List Trm):=R32 M68 M69 M22 vs ps ts e
noncomputable abbrev kxR (vs:List Vrb) (ps:List Pcs) (ts:List Trn) (e:List Trm):=R37 M74 M75 M77 M36 vs ps ts e
theorem qeh (hg:smallG vs ps) (e:List Trm) (he:shortE e):∀ (t i n:Nat),i+t=e.length→t<n→kxP vs ps ts e n (.l0 (e.length:Nat) i)=kxR vs ps ts e n (.l0 i)
 | t,i,0,hi,hn=>by omega
 | 0,i,n+1,hi,hn=>by
   show T32 Ops.std _ _ _ vs ps ts e _ some _=T37 Ops.std _ _ _ _ vs ps ts e _ some _
   unfold T32 T37
   simp only [qah,qaa]
   rw [if_neg (by omega),if_neg (by omega),he.rtR,ob_s,rightE_prog e (by have:=he.1;omega),ob_s]
 | t+1,i,n+1,hi,hn=>by
   have ih:=qeh hg e he t (i+1) n (by omega) (by omega)
   have h30:=he.1
   obtain ⟨x,hx⟩:∃ x,e.getD i (Ty.dflt ty56)=x:=⟨_,rfl⟩
   obtain ⟨q,r,q1,r1,p1⟩:=place_eq ts hg x.2.2.1 x.2.2.2
   obtain ⟨v,v1,v2⟩:=qcj vs ps ts hg.v x.2.2.1
   show T32 Ops.std _ _ _ vs ps ts e _ some _=T37 Ops.std _ _ _ _ vs ps ts e _ some _
   unfold T32 T37
   simp only [qah,qak,qan,qaa,qab,hx,qeg ts hg.v,show IntKind.wrap IntKind.i64 ((i:Int)+1)=((i+1:Nat):Int) from qai (by omega)]
   have hin:(0:Int)≤(i:Int)∧(i:Int)<(e.length:Int):=by omega
   simp only [if_pos hin,if_pos hin.2]
   by_cases h2:x.1=2
   ·rw [if_pos h2,if_pos h2,v1,ob_s,ob_s]
    by_cases hv:v<0
    ·rw [if_pos hv,if_pos hv]
    ·rw [if_neg hv,if_neg hv,if_neg (by omega)];exact ih
   ·rw [if_neg h2,if_neg h2]
    by_cases h3:x.1=3
    ·rw [if_pos h3,if_pos h3,p1,ob_s,q1,ob_s,r1,ob_s]
     dsimp only
     by_cases hr:r<0
     ·rw [if_pos hr,if_pos hr]
     ·rw [if_neg hr,if_neg hr];exact ih
    ·rw [if_neg h3,if_neg h3];exact ih
theorem knownP_eq (hg:smallG vs ps) (e:List Trm) (he:shortE e):M32 vs ps ts e=some (knB vs ps ts e):=by
 obtain ⟨b,hb,_⟩:=known_ok ts hg e he
 have:M32 vs ps ts e=M37 vs ps ts e:=by
  show T32 Ops.std M68 M69 M22 vs ps ts e (kxP vs ps ts e 1000000) some none=T37 Ops.std M74 M75 M77 M36 vs ps ts e (kxR vs ps ts e 1000000) some none
  unfold T32 T37
  exact qeh ts hg e he e.length 0 1000000 (by omega) (by have:=he.1;omega)
 rw [this]
 unfold knB
 rw [hb];rfl
theorem within_eq (n:Int):M70 n=M73 n:=by
 show T70 Ops.std n some=T73 Ops.std n some
 unfold T70 T73
 simp only [qah,ite_dec,cond_true,cond_false]
 congr 1
 (repeat' split)<;>omega
theorem truth_eq (b:Bool):M71 b=M76 b:=by cases b<;>rfl
theorem two_eq (op a b:Int):M72 op a b=M78 op a b:=by
 show T72 Ops.std M70 M71 op a b some=T78 Ops.std M73 M76 op a b some
 unfold T72 T78
 rw [show M70=M73 from funext within_eq,show M71=M76 from funext truth_eq]
noncomputable abbrev evP (vs:List Vrb) (ps:List Pcs) (ts:List Trn) (s1 s2:List Int) (e:List Trm):=R33 M32 M50 M68 M70 M69 M71 M72 vs ps ts s1 s2 e
theorem qe4 (hg:smallG vs ps) (s1 s2:List Int) (h1:s1.length=ps.length) (h2:s2.length=vs.length) (e:List Trm) (he:e.length≤30) (hk:∀ x∈e,knE vs ps ts x):∀ (t i n:Nat) (st:List Int),i+t=e.length→t<n→st.length≤i→fin30 e (eGo (e.drop i) st.length)=true→
  evP vs ps ts s1 s2 e n (.l0 (e.length:Nat) i st)=evR vs ps ts s1 s2 e n (.l0 i st)
 | t,i,0,st,hi,hn,hs,hf=>by omega
 | 0,i,n+1,st,hi,hn,hs,hf=>by
   rw [List.drop_eq_nil_of_le (by omega)] at hf
   simp only [eGo,fin30,Bool.and_eq_true,decide_eq_true_eq] at hf
   show T33 Ops.std _ _ _ _ _ _ _ vs ps ts s1 s2 e _ some _=T34 Ops.std _ _ _ _ _ _ _ vs ps ts s1 s2 e _ some _
   unfold T33 T34
   simp only [qah,qan,qak,qaa]
   rw [if_neg (by omega),if_pos (by omega),if_neg (by omega),if_neg (by omega)]
 | t+1,i,n+1,st,hi,hn,hs,hf=>by
   have ih:=fun st=>qe4 hg s1 s2 h1 h2 e he hk t (i+1) n st (by omega) (by omega)
   rw [qa3 (Ty.dflt ty56) (by omega)] at hf
   obtain ⟨x,hx⟩:∃ x,e.getD i (Ty.dflt ty56)=x:=⟨_,rfl⟩
   have hm:x∈e:=by rw [←hx];exact qef (by omega) _
   rw [hx] at hf
   simp only [eGo] at hf
   have hmay:mayT x=true:=by
    cases h:mayT x with
    | true=>rfl
    | false=>rw [h] at hf;simp [fin30] at hf
   have hop:=mayT_op hmay
   obtain ⟨hb1,hb2⟩:=opE_le x.1
   have hd:¬ ((st.length:Nat):Int)<opE x.1:=fun h=>by rw [hmay] at hf;simp [h,fin30] at hf
   simp only [hmay,hd,Bool.not_true,decide_false,Bool.or_false,Bool.false_eq_true,if_false] at hf
   have ha:opE x.1=((opE x.1).toNat:Int):=by omega
   generalize (opE x.1).toNat=a at ha
   have ha2:a≤2:=by omega
   have hal:a≤st.length:=by omega
   have hnx:∀ y:Int,fin30 e (eGo (e.drop (i+1)) ((st.take (st.length-a)++[y]).length:Nat))=true:=fun y=>by
    rw [←hf,ha]
    congr 2
    simp;omega
   have hwa:IntKind.wrap IntKind.i64 ((st.length:Int)-(a:Int))=((st.length-a:Nat):Int):=by rw [wrap64 (by omega) (by omega)];omega
   show T33 Ops.std _ _ _ _ _ _ _ vs ps ts s1 s2 e _ some _=T34 Ops.std _ _ _ _ _ _ _ vs ps ts s1 s2 e _ some _
   unfold T33 T34
   simp only [qah,qan,qak,qbc,qaa,qab,hx,mt,opE_prog,ob_s,ha,hwa,qeg ts hg.v,within_eq,truth_eq,two_eq,List.length_cons,List.length_nil,show IntKind.wrap IntKind.i64 ((i:Int)+1)=((i+1:Nat):Int) from qai (by omega)]
   have hin:(0:Int)≤(i:Int)∧(i:Int)<(e.length:Int):=by omega
   have hlim:∀ l:List Int,l.length≤st.length→(l.length+(0+1))*8≤140737488355328:=fun l h=>by omega
   have hit:(0:Int)≤((st.length-a:Nat):Int)∧((st.length-a:Nat):Int)<((st.length+1:Nat):Int):=by omega
   have htl:(st.take (st.length-a)).length≤st.length:=by rw [List.length_take];omega
   simp only [if_pos hin,if_pos hin.2]
   by_cases o1:x.1=1
   ·have h0:a=0:=by have e:opE x.1=0:=(congrArg opE o1).trans rfl;omega
    have et:st.take (st.length-a)=st:=by rw [h0];simp
    have n1:=hnx x.2.1
    rw [et] at n1
    rw [if_pos o1,if_pos o1,if_pos hit,et,if_pos (by omega),if_pos (by omega)]
    exact ih _ (by simp;omega) n1
   rw [if_neg o1,if_neg o1]
   by_cases o2:x.1=2
   ·have h0:a=0:=by have e:opE x.1=0:=(congrArg opE o2).trans rfl;omega
    have et:st.take (st.length-a)=st:=by rw [h0];simp
    obtain ⟨k,hk1,hk2⟩:=(hk x hm).1 o2
    obtain ⟨y,hy⟩:=qdg (s2.getD k (Ty.dflt ty3))
    have n1:=hnx y
    rw [et] at n1
    have hkin:(0:Int)≤(k:Int)∧(k:Int)<(s2.length:Int):=by omega
    rw [if_pos o2,if_pos o2,hk2,ob_s,ob_s,if_pos hkin,if_pos hkin,qab,hy,ob_s,ob_s,if_pos hit,et,if_pos (by omega),if_pos (by omega)]
    exact ih _ (by simp;omega) n1
   rw [if_neg o2,if_neg o2]
   by_cases o3:x.1=3
   ·have h0:a=0:=by have e:opE x.1=0:=(congrArg opE o3).trans rfl;omega
    have et:st.take (st.length-a)=st:=by rw [h0];simp
    obtain ⟨q,r,q1,q2,q3⟩:=(hk x hm).2 o3
    obtain ⟨q',r',p1,p2,p3⟩:=place_eq ts hg x.2.2.1 x.2.2.2
    rw [q2] at p1
    have e1:=Option.some.inj p1
    subst e1
    rw [q3] at p2
    have e2:=Option.some.inj p2
    subst e2
    obtain ⟨y,hy⟩:=qdh (decide (s1.getD q (Ty.dflt ty3)=r))
    have n1:=hnx y
    rw [et] at n1
    have hqin:(0:Int)≤(q:Int)∧(q:Int)<(s1.length:Int):=by omega
    rw [if_pos o3,if_pos o3,p3,q2,ob_s,ob_s]
    dsimp only
    rw [if_pos hqin,if_pos hqin,q3,ob_s,qab,hy,ob_s,ob_s,if_pos hit,et,if_pos (by omega),if_pos (by omega)]
    exact ih _ (by simp;omega) n1
   rw [if_neg o3,if_neg o3]
   by_cases o4:x.1=4
   ·have h1:a=1:=by have e:opE x.1=1:=(congrArg opE o4).trans rfl;omega
    subst h1
    have hw1:IntKind.wrap IntKind.i64 ((st.length:Int)-1)=((st.length-1:Nat):Int):=by rw [wrap64 (by omega) (by omega)];omega
    obtain ⟨y,hy⟩:=qdh (decide (st.getD (st.length-1) (Ty.dflt ty3)=0))
    simp only [hw1,qab,hy,ob_s]
    have hi1:(0:Int)≤((st.length-1:Nat):Int)∧((st.length-1:Nat):Int)<(st.length:Int):=by omega
    rw [if_pos o4,if_pos o4,if_pos hi1,if_pos hit,if_pos (by omega),if_neg (by omega),if_pos trivial,if_pos hit,if_pos hi1,if_pos (by omega),if_pos (by omega)]
    exact ih _ (by simp;omega) (hnx y)
   rw [if_neg o4,if_neg o4]
   by_cases o5:x.1=5
   ·have h1:a=1:=by have e:opE x.1=1:=(congrArg opE o5).trans rfl;omega
    subst h1
    have hw1:IntKind.wrap IntKind.i64 ((st.length:Int)-1)=((st.length-1:Nat):Int):=by rw [wrap64 (by omega) (by omega)];omega
    obtain ⟨y,hy⟩:=qdg (IntKind.wrap IntKind.i64 (0-st.getD (st.length-1) (Ty.dflt ty3)))
    simp only [hw1,qab,hy,ob_s]
    have hi1:(0:Int)≤((st.length-1:Nat):Int)∧((st.length-1:Nat):Int)<(st.length:Int):=by omega
    rw [if_pos o5,if_pos o5,if_pos hi1,if_pos hit,if_pos (by omega),if_neg (by omega),if_pos trivial,if_pos hit,if_pos hi1,if_pos (by omega),if_pos (by omega)]
    exact ih _ (by simp;omega) (hnx y)
   rw [if_neg o5,if_neg o5]
   have h2':a=2:=by
    unfold opE at ha
    split at ha
    ·omega
    ·rw [if_neg (by omega),if_neg (by omega)] at ha;omega
   subst h2'
   have hw1:IntKind.wrap IntKind.i64 ((st.length:Int)-1)=((st.length-1:Nat):Int):=by rw [wrap64 (by omega) (by omega)];omega
   have hw2:IntKind.wrap IntKind.i64 ((st.length:Int)-2)=((st.length-2:Nat):Int):=by rw [wrap64 (by omega) (by omega)];omega
   have hw3:IntKind.wrap IntKind.i64 (((st.length-2:Nat):Int)+1)=((st.length-1:Nat):Int):=by rw [wrap64 (by omega) (by omega)];omega
   obtain ⟨y,hy⟩:=two_some x.1 (st.getD (st.length-2) (Ty.dflt ty3)) (st.getD (st.length-1) (Ty.dflt ty3))
   simp only [hw1,hw2,hw3,qab,hy,ob_s]
   have hi1:(0:Int)≤((st.length-1:Nat):Int)∧((st.length-1:Nat):Int)<(st.length:Int):=by omega
   have hi2:(0:Int)≤((st.length-2:Nat):Int)∧((st.length-2:Nat):Int)<(st.length:Int):=by omega
   rw [if_pos hi2,if_pos hi1,if_pos hit,if_pos (by omega),if_neg (by omega),if_pos trivial,if_pos hit,if_pos hi2,if_pos hi1,if_pos (by omega),if_pos (by omega)]
   exact ih _ (by simp;omega) (hnx y)
theorem evalP_eq (hg:smallG vs ps) (s1 s2:List Int) (e:List Trm) (he:shortE e):M33 vs ps ts s1 s2 e=M34 vs ps ts s1 s2 e:=by
 show T33 Ops.std M32 M50 M68 M70 M69 M71 M72 vs ps ts s1 s2 e (evP vs ps ts s1 s2 e 1000000) some none=T34 Ops.std M37 M74 M73 M75 M77 M76 M78 vs ps ts s1 s2 e (evR vs ps ts s1 s2 e 1000000) some none
 unfold T33 T34
 obtain ⟨b,b1,b2⟩:=known_ok ts hg e he
 have e1:knB vs ps ts e=b:=by unfold knB;rw [b1];rfl
 rw [knownP_eq ts hg e he,ob_s,b1,ob_s,e1]
 cases hb:b with
 | false=>rfl
 | true=>
   simp only [Bool.not_true,cond_false,qan,qbd,qaa]
   by_cases c1:((s1.length:Nat):Int)=((ps.length:Nat):Int)
   ·rw [if_neg (fun h=>h c1)]
    by_cases c2:((s2.length:Nat):Int)=((vs.length:Nat):Int)
    ·rw [if_neg (fun h=>h c2),if_neg (fun h=>h c1),if_neg (fun h=>h c2)]
     exact qe4 ts hg s1 s2 (by omega) (by omega) e he.1 (b2 hb).2 e.length 0 1000000 [] (by omega) (by have:=he.1;omega) (by simp) (b2 hb).1
    ·rw [if_pos c2,if_neg (fun h=>h c1),if_pos c2]
   ·rw [if_pos c1,if_pos c1]
end
def clamp (n:Int):Int:=if n < -99999 then -99999 else if 99999<n then 99999 else n
def bdV (n:Int):Prop:=-99999≤n∧n≤99999
theorem clamp_bd (n:Int):bdV (clamp n):=by unfold clamp bdV;(repeat' split)<;>omega
def trI (b:Bool):Int:=if b then 1 else 0
theorem trI_bd (b:Bool):bdV (trI b):=by cases b<;>exact ⟨by decide,by decide⟩
theorem bound_is (n:Int):M73 n=some (clamp n):=by
 show T73 Ops.std n some=_
 unfold T73
 simp only [qah,ite_dec,cond_true,cond_false]
 congr 1
 unfold clamp
 (repeat' split)<;>omega
theorem truth_is (b:Bool):M76 b=some (trI b):=by cases b<;>rfl
def twoV (k a b:Int):Int:=
 if k=6 then clamp (a*b) else if k=7 then clamp (a+b) else if k=8 then clamp (a-b) else if k=9 then trI (decide (a<b)) else if k=10 then trI (decide (a≤b)) else if k=11 then trI (decide (b<a)) else if k=12 then trI (decide (b≤a)) else if k=13 then trI (decide (a=b)) else if k=14 then trI (decide (a≠b)) else if k=15 then trI (decide (a≠0∧b≠0)) else trI (decide (a≠0∨b≠0))
theorem twoV_bd (k a b:Int):bdV (twoV k a b):=by
 unfold twoV
 repeat' (first | exact clamp_bd _ | exact trI_bd _ | split)
theorem mul_bd {a b:Int} (ha:bdV a) (hb:bdV b):-10000000000≤a*b∧a*b≤10000000000:=by
 obtain ⟨a1,a2⟩:=ha
 obtain ⟨b1,b2⟩:=hb
 have h1:(99999-a)*(99999+b)≥0:=Int.mul_nonneg (by omega) (by omega)
 have h2:(99999+a)*(99999-b)≥0:=Int.mul_nonneg (by omega) (by omega)
 have h3:(99999-a)*(99999-b)≥0:=Int.mul_nonneg (by omega) (by omega)
 have h4:(99999+a)*(99999+b)≥0:=Int.mul_nonneg (by omega) (by omega)
 simp only [Int.sub_mul,Int.add_mul,Int.mul_sub,Int.mul_add] at h1 h2 h3 h4
 generalize a*b=c at *
 omega
theorem two_is (op:Int) {a b:Int} (ha:bdV a) (hb:bdV b):M78 op a b=some (twoV op a b):=by
 have hm:=mul_bd ha hb
 obtain ⟨a1,a2⟩:=ha
 obtain ⟨b1,b2⟩:=hb
 show T78 Ops.std M73 M76 op a b some=_
 unfold T78 twoV
 simp only [qan,qah,qa1,qaa,qbd,bound_is,truth_is,ob_s,wrap64 (n:=a*b) (by omega) (by omega),wrap64 (n:=a+b) (by omega) (by omega),wrap64 (n:=a-b) (by omega) (by omega)]
 by_cases h:op=6
 ·rw [if_pos h,if_pos h]
 rw [if_neg h,if_neg h]
 by_cases h:op=7
 ·rw [if_pos h,if_pos h]
 rw [if_neg h,if_neg h]
 by_cases h:op=8
 ·rw [if_pos h,if_pos h]
 rw [if_neg h,if_neg h]
 by_cases h:op=9
 ·rw [if_pos h,if_pos h]
 rw [if_neg h,if_neg h]
 by_cases h:op=10
 ·rw [if_pos h,if_pos h]
 rw [if_neg h,if_neg h]
 by_cases h:op=11
 ·rw [if_pos h,if_pos h]
 rw [if_neg h,if_neg h]
 by_cases h:op=12
 ·rw [if_pos h,if_pos h]
 rw [if_neg h,if_neg h]
 by_cases h:op=13
 ·rw [if_pos h,if_pos h]
 rw [if_neg h,if_neg h]
 by_cases h:op=14
 ·rw [if_pos h,if_pos h]
 rw [if_neg h,if_neg h]
 by_cases h:op=15
 ·rw [if_pos h,if_pos h]
  by_cases h0:a=0
  ·rw [if_neg (fun hx=>hx h0)];congr 2;simp [h0]
  ·rw [if_pos h0];congr 2;simp [h0]
 rw [if_neg h,if_neg h]
 by_cases h0:a=0
 ·rw [if_neg (fun hx=>hx h0)];congr 2;simp [h0]
 ·rw [if_pos h0];congr 2;simp [h0]
def unV (k a:Int):Int:=if k=4 then trI (decide (a=0)) else clamp (-a)
theorem unV_bd (k a:Int):bdV (unV k a):=by unfold unV;split;exact trI_bd _;exact clamp_bd _
def evT (lf:Trm→Int):Et→Int
 | .nul t=>lf t
 | .un k x=>unV k (evT lf x)
 | .bi k x y=>twoV k (evT lf x) (evT lf y)
def stp (lf:Trm→Int) (x:Trm) (st:List Int):List Int:=
 if opE x.1=0 then st++[lf x] else if opE x.1=1 then st.take (st.length-1)++[unV x.1 (st.getD (st.length-1) 0)] else st.take (st.length-2)++[twoV x.1 (st.getD (st.length-2) 0) (st.getD (st.length-1) 0)]
def stV (lf:Trm→Int):List Trm→List Int→List Int
 | [],st=>st
 | x::r,st=>stV lf r (stp lf x st)
theorem qdx (lf:Trm→Int):∀ (t:Et),t.wf→∀ (r:List Trm) (st:List Int),stV lf (t.flat++r) st=stV lf r (st++[evT lf t])
 | .nul t,h,r,st=>by
   simp only [Et.flat,List.cons_append,List.nil_append,stV,stp,h.op,if_true,evT]
 | .un k x,h,r,st=>by
   have hk:=opE_un h.1
   simp only [Et.flat,List.append_assoc,List.cons_append,List.nil_append,qdx lf x h.2,stV,stp,hk,evT]
   congr 1
   rw [if_neg (by decide),if_pos trivial]
   have:(st++[evT lf x]).length-1=st.length:=by simp
   rw [this,List.take_left,qbt st (evT lf x) [] 0]
 | .bi k x y,h,r,st=>by
   have hk:=opE_bi h.1
   simp only [Et.flat,List.append_assoc,List.cons_append,List.nil_append,qdx lf x h.2.1,qdx lf y h.2.2,stV,stp,hk,evT]
   congr 1
   rw [if_neg (by decide),if_neg (by decide)]
   have e1:(st++([evT lf x]++[evT lf y])).length-2=st.length:=by simp
   have e2:(st++([evT lf x]++[evT lf y])).length-1=(st++[evT lf x]).length:=by simp
   have e3:st++([evT lf x]++[evT lf y])=st++evT lf x::[evT lf y]:=rfl
   have e4:st++([evT lf x]++[evT lf y])=(st++[evT lf x])++evT lf y::[]:=by simp
   have g1:(st++([evT lf x]++[evT lf y])).getD st.length 0=evT lf x:=by rw [e3];exact qbt st _ _ 0
   have g2:(st++([evT lf x]++[evT lf y])).getD (st++[evT lf x]).length 0=evT lf y:=by rw [e4];exact qbt (st++[evT lf x]) _ [] 0
   have g3:(st++([evT lf x]++[evT lf y])).take st.length=st:=List.take_left
   simp only [List.cons_append,List.nil_append] at e1 e2 g1 g2 g3
   rw [e1,e2,g1,g2,g3]
theorem evT_bd (lf:Trm→Int) (hlf:∀ x,mayT x=true→bdV (lf x)):∀ t:Et,t.wf→bdV (evT lf t)
 | .nul t,h=>hlf t h.1
 | .un k x,_=>unV_bd _ _
 | .bi k x y,_=>twoV_bd _ _ _
section
variable {vs:List Vrb} {ps:List Pcs} (ts:List Trn)
noncomputable def lfV (vs:List Vrb) (ps:List Pcs) (ts:List Trn) (s1 s2:List Int) (x:Trm):Int:=
 if x.1=1 then x.2.1 else if x.1=2 then clamp (s2.getD ((M74 vs ps ts x.2.2.1).getD 0).toNat 0)
 else trI (decide (s1.getD ((M75 vs ps ts x.2.2.1).getD 0).toNat 0=(M77 vs ps ts ((M75 vs ps ts x.2.2.1).getD 0) x.2.2.2).getD 0))
theorem lfV_bd (s1 s2:List Int) (x:Trm) (h:mayT x=true):bdV (lfV vs ps ts s1 s2 x):=by
 unfold lfV
 by_cases h1:x.1=1
 ·rw [if_pos h1]
  have:=may_num h h1
  exact ⟨by omega,by omega⟩
 ·rw [if_neg h1]
  split
  ·exact clamp_bd _
  ·exact trI_bd _
theorem qe5 (s1 s2:List Int) (h1:s1.length=ps.length) (h2:s2.length=vs.length) (e:List Trm) (he:e.length≤30) (hk:∀ x∈e,knE vs ps ts x):∀ (t i n:Nat) (st:List Int),i+t=e.length→t<n→st.length≤i→(∀ v∈st,bdV v)→fin30 e (eGo (e.drop i) st.length)=true→
  evR vs ps ts s1 s2 e n (.l0 i st)=some ((stV (lfV vs ps ts s1 s2) (e.drop i) st).getD 0 0)
 | t,i,0,st,hi,hn,hs,hb,hf=>by omega
 | 0,i,n+1,st,hi,hn,hs,hb,hf=>by
   rw [List.drop_eq_nil_of_le (by omega)] at hf ⊢
   simp only [eGo,fin30,Bool.and_eq_true,decide_eq_true_eq] at hf
   show T34 Ops.std _ _ _ _ _ _ _ vs ps ts s1 s2 e _ some _=_
   unfold T34
   simp only [qah,qan,qak,qaa]
   rw [if_neg (by omega),if_neg (by omega),if_pos (by omega)]
   rfl
 | t+1,i,n+1,st,hi,hn,hs,hb,hf=>by
   have ih:=fun st=>qe5 s1 s2 h1 h2 e he hk t (i+1) n st (by omega) (by omega)
   rw [qa3 (Ty.dflt ty56) (by omega)] at hf ⊢
   obtain ⟨x,hx⟩:∃ x,e.getD i (Ty.dflt ty56)=x:=⟨_,rfl⟩
   have hm:x∈e:=by rw [←hx];exact qef (by omega) _
   rw [hx] at hf ⊢
   simp only [eGo] at hf
   have hmay:mayT x=true:=by
    cases h:mayT x with
    | true=>rfl
    | false=>rw [h] at hf;simp [fin30] at hf
   have hop:=mayT_op hmay
   obtain ⟨hb1,hb2⟩:=opE_le x.1
   have hd:¬ ((st.length:Nat):Int)<opE x.1:=fun h=>by rw [hmay] at hf;simp [h,fin30] at hf
   simp only [hmay,hd,Bool.not_true,decide_false,Bool.or_false,Bool.false_eq_true,if_false] at hf
   have ha:opE x.1=((opE x.1).toNat:Int):=by omega
   have hnx:∀ y:Int,fin30 e (eGo (e.drop (i+1)) ((st.take (st.length-(opE x.1).toNat)++[y]).length:Nat))=true:=fun y=>by
    rw [←hf]
    congr 2
    simp;omega
   have hbx:∀ (k:Nat) (y:Int),bdV y→∀ v∈st.take k++[y],bdV v:=fun k y hy v hv=>by
    rcases List.mem_append.1 hv with hv | hv
    ·exact hb v (List.mem_of_mem_take hv)
    ·simp only [List.mem_singleton] at hv;rw [hv];exact hy
   have hgt:∀ k,k<st.length→bdV (st.getD k 0):=fun k hk=>hb _ (qef hk _)
   have hlf:=lfV_bd (vs:=vs) (ps:=ps) ts s1 s2 x hmay
   obtain ⟨k2,k3⟩:=hk x hm
   rw [stV]
   show T34 Ops.std _ _ _ _ _ _ _ vs ps ts s1 s2 e _ some _=_
   unfold T34
   simp only [qah,qan,qak,qbc,qaa,qab,hx,mt,List.length_cons,List.length_nil,bound_is,truth_is,ob_s,show IntKind.wrap IntKind.i64 ((i:Int)+1)=((i+1:Nat):Int) from qai (by omega)]
   rw [if_pos (by omega),if_pos (by omega)]
   have nul:opE x.1=0→stp (lfV vs ps ts s1 s2) x st=st++[lfV vs ps ts s1 s2 x]∧fin30 e (eGo (e.drop (i+1)) ((st++[lfV vs ps ts s1 s2 x]).length:Nat))=true∧∀ v∈st++[lfV vs ps ts s1 s2 x],bdV v:=fun h0=>by
    have e0:st.take (st.length-(opE x.1).toNat)=st:=by rw [h0];simp
    have n1:=hnx (lfV vs ps ts s1 s2 x)
    have n2:=hbx (st.length-(opE x.1).toNat) _ hlf
    rw [e0] at n1 n2
    exact ⟨if_pos h0,n1,n2⟩
   by_cases o1:x.1=1
   ·obtain ⟨q1,q2,q3⟩:=nul (by rw [o1];rfl)
    have q4:lfV vs ps ts s1 s2 x=x.2.1:=if_pos o1
    rw [q4] at q1 q2 q3
    rw [if_pos o1,if_pos (by omega),q1];exact ih _ (by simp;omega) q3 q2
   rw [if_neg o1]
   by_cases o2:x.1=2
   ·obtain ⟨k,hk1,hk2⟩:=k2 o2
    obtain ⟨q1,q2,q3⟩:=nul (by rw [o2];rfl)
    have q4:lfV vs ps ts s1 s2 x=clamp (s2.getD k 0):=by unfold lfV;rw [if_neg o1,if_pos o2,hk2];rfl
    rw [q4] at q1 q2 q3
    rw [if_pos o2,hk2,ob_s,if_pos (by omega),if_pos (by omega),q1]
    exact ih _ (by simp;omega) q3 q2
   rw [if_neg o2]
   by_cases o3:x.1=3
   ·obtain ⟨q,r,p1,p2,p3⟩:=k3 o3
    obtain ⟨q1,q2,q3⟩:=nul (by rw [o3];rfl)
    have q4:lfV vs ps ts s1 s2 x=trI (decide (s1.getD q 0=r)):=by
     unfold lfV
     rw [if_neg o1,if_neg o2,p2]
     simp only [Option.getD_some,p3,qab]
    rw [q4] at q1 q2 q3
    rw [if_pos o3,p2,ob_s,if_pos (by omega),p3,ob_s,if_pos (by omega),q1]
    exact ih _ (by simp;omega) q3 q2
   rw [if_neg o3]
   have un:opE x.1=1→∀ y,y=unV x.1 (st.getD (st.length-1) 0)→stp (lfV vs ps ts s1 s2) x st=st.take (st.length-1)++[y]∧fin30 e (eGo (e.drop (i+1)) ((st.take (st.length-1)++[y]).length:Nat))=true∧∀ v∈st.take (st.length-1)++[y],bdV v:=fun h0 y hy=>by
    subst hy
    have n1:=hnx (unV x.1 (st.getD (st.length-1) 0))
    rw [show (opE x.1).toNat=1 by omega] at n1
    refine ⟨?_,n1,hbx _ _ (unV_bd _ _)⟩
    unfold stp
    rw [if_neg (by omega),if_pos h0]
   by_cases o4:x.1=4
   ·have ho:opE x.1=1:=by rw [o4];rfl
    rw [if_pos o4,if_neg (by omega)]
    have hw1:IntKind.wrap IntKind.i64 ((st.length:Int)-1)=((st.length-1:Nat):Int):=by rw [wrap64 (by omega) (by omega)];omega
    simp only [hw1,qab]
    obtain ⟨q1,q2,q3⟩:=un ho (trI (decide (st.getD (st.length-1) 0=0))) (by unfold unV;rw [if_pos o4])
    rw [if_pos trivial,if_pos (by omega),if_pos (by omega),if_pos (by omega),if_pos (by simp;omega),q1]
    exact ih _ (by simp;omega) q3 q2
   rw [if_neg o4]
   by_cases o5:x.1=5
   ·have ho:opE x.1=1:=by rw [o5];rfl
    rw [if_pos o5,if_neg (by omega)]
    have hw1:IntKind.wrap IntKind.i64 ((st.length:Int)-1)=((st.length-1:Nat):Int):=by rw [wrap64 (by omega) (by omega)];omega
    have hv:=hgt (st.length-1) (by omega)
    unfold bdV at hv
    have hw2:IntKind.wrap IntKind.i64 (0-st.getD (st.length-1) (Ty.dflt ty3)) =-st.getD (st.length-1) 0:=by
     rw [show (Ty.dflt ty3:Int)=0 from rfl,wrap64 (by omega) (by omega)];omega
    simp only [hw1,qab,hw2]
    obtain ⟨q1,q2,q3⟩:=un ho (clamp (- st.getD (st.length-1) 0)) (by unfold unV;rw [if_neg o4])
    rw [if_pos trivial,if_pos (by omega),if_pos (by omega),if_pos (by omega),if_pos (by simp;omega),q1]
    exact ih _ (by simp;omega) q3 q2
   rw [if_neg o5]
   have ho:opE x.1=2:=by
    unfold opE at hop ⊢
    (repeat' split at hop)<;>(repeat' split)<;>omega
   rw [if_neg (by omega)]
   have hw1:IntKind.wrap IntKind.i64 ((st.length:Int)-1)=((st.length-1:Nat):Int):=by rw [wrap64 (by omega) (by omega)];omega
   have hw2:IntKind.wrap IntKind.i64 ((st.length:Int)-2)=((st.length-2:Nat):Int):=by rw [wrap64 (by omega) (by omega)];omega
   simp only [hw1,hw2,qab]
   have ht:=two_is x.1 (hgt (st.length-2) (by omega)) (hgt (st.length-1) (by omega))
   have ht:M78 x.1 (st.getD (st.length-2) (Ty.dflt ty3)) (st.getD (st.length-1) (Ty.dflt ty3))=some (twoV x.1 (st.getD (st.length-2) 0) (st.getD (st.length-1) 0)):=ht
   have n1:=hnx (twoV x.1 (st.getD (st.length-2) 0) (st.getD (st.length-1) 0))
   rw [show (opE x.1).toNat=2 by omega] at n1
   have q1:stp (lfV vs ps ts s1 s2) x st=st.take (st.length-2)++[twoV x.1 (st.getD (st.length-2) 0) (st.getD (st.length-1) 0)]:=by
    unfold stp
    rw [if_neg (by omega),if_neg (by omega)]
   rw [if_pos trivial,if_pos (by omega),if_pos (by omega),if_pos (by omega),ht,ob_s,if_pos (by omega),if_pos (by simp;omega),q1]
   exact ih _ (by simp;omega) (hbx _ _ (twoV_bd _ _ _)) n1
theorem eval_is (hg:smallG vs ps) (s1 s2:List Int) (h1:s1.length=ps.length) (h2:s2.length=vs.length) (t:Et) (ht:t.wf) (hs:shortE t.flat):M34 vs ps ts s1 s2 t.flat=some (if knB vs ps ts t.flat then evT (lfV vs ps ts s1 s2) t else 0):=by
 show T34 Ops.std M37 M74 M73 M75 M77 M76 M78 vs ps ts s1 s2 t.flat (evR vs ps ts s1 s2 t.flat 1000000) some none=_
 unfold T34
 obtain ⟨b,b1,b2⟩:=known_ok ts hg t.flat hs
 have e1:knB vs ps ts t.flat=b:=by unfold knB;rw [b1];rfl
 rw [b1,ob_s,e1]
 cases hb:b with
 | false=>rfl
 | true=>
   simp only [Bool.not_true,cond_false,qan,qbd,qaa]
   rw [if_neg (by omega),if_neg (by omega)]
   obtain ⟨r1,r2⟩:=b2 hb
   refine (qe5 ts s1 s2 h1 h2 t.flat hs.1 r2 t.flat.length 0 1000000 [] (by omega) (by have:=hs.1;omega) (by simp) (fun v h=>by cases h) r1).trans ?_
   have:=qdx (lfV vs ps ts s1 s2) t ht [] []
   rw [List.append_nil] at this
   rw [List.drop_zero,this]
   rfl
end
section
variable {l:List Tok}
end
theorem known8_ok:M14=some true:=by kernel_rfl
theorem parseR_e {l:List Tok} {k e:Int} {x:List Trm} (h:e≠0):parseR l (k,e,x)=(e,(tkD l k.toNat).2.2.2,[]):=if_neg h
theorem ParseIs.good {s:List UInt8} {y:Int×Int×List Trm} (h:ParseIs s y):(y.1=0∧∃ t:Et,t.wf∧y.2.2=t.flat∧t.flat.length≤30)∨(y.1≠0∧y.2.2=[]):=by
 rcases h with ⟨e,x,l,h1,h2,rfl⟩ | ⟨x,l,r,h1,h2,rfl⟩
 ·exact .inr ⟨h2,rfl⟩
 ·obtain ⟨hl,hlen,hs⟩:=lexS_ok h1
  have hbd:=h2.bd hl (Nat.le_refl 1) (toks_len hl)
  cases r with
  | bad k=>
    have e:parseR l (takeR 0 (.bad k))=(2,(tkD l (k:Int).toNat).2.2.2,[]):=parseR_e (by decide)
    rw [e]
    exact .inr ⟨by show (2:Int)≠0;decide,rfl⟩
  | ok b e=>
    by_cases h30:30<e.length
    ·have:takeR 0 (.ok b e)=(0,13,[]):=if_pos h30
     rw [this,parseR_e (by decide)]
     exact .inr ⟨by show (13:Int)≠0;decide,rfl⟩
    ·have:takeR 0 (.ok b e)=((b:Int),0,e):=if_neg h30
     rw [this]
     unfold parseR
     rw [if_pos rfl]
     by_cases h5:(tkD l ((b:Int)).toNat).1=5
     ·rw [if_pos h5]
      obtain ⟨t,t1,t2,t3⟩:=rightE_tree (hbd.2.2.2.right (by omega))
      exact .inl ⟨rfl,t,t1,t2,by rw [←t2];exact t3⟩
     ·rw [if_neg h5]
      exact .inr ⟨by show (2:Int)≠0;decide,rfl⟩
abbrev gV:List Vrb:=[([120],-999,999,0),([121],-999,999,0)]
abbrev gP:List Pcs:=[([112],[[97],[98],[99]]),([113],[[97],[98],[99]])]
theorem gG:smallG gV gP:=⟨by decide,by decide,fun p hp=>by
 simp only [gP,List.mem_cons,List.not_mem_nil,or_false] at hp
 rcases hp with rfl | rfl<;>decide⟩
theorem ground_ok (x y st:Int):∃ k1 k2:Nat,M28 x y st=some (gV,gP,[],[(k1:Int),(k2:Int)],[x,y]):=by
 obtain ⟨k1,_,h1⟩:=pickN st 3 (by omega) (by omega)
 obtain ⟨k2,_,h2⟩:=pickN (IntKind.wrap IntKind.i64 (Int.tdiv st 3)) 3 (by omega) (by omega)
 refine ⟨k1,k2,?_⟩
 show T28 Ops.std M24 x y st some=_
 unfold T28
 have h1':M24 st 3=some (k1:Int):=h1
 have h2':M24 (IntKind.wrap IntKind.i64 (Int.tdiv st 3)) 3=some (k2:Int):=h2
 rw [h1',h2',ob_s,ob_s]
 rfl
theorem Et.short {t:Et} (h:t.wf) (hl:t.flat.length≤30):shortE t.flat:=shortE.of (qeb h hl)
abbrev inB (T:List TokS):List TokS:=(4,[40],0)::(T++[(4,[41],0)])
def OpD (T:List TokS):Prop:=∃ D:De,D.ok∧D.bra.toks=inB T
theorem qei {s:List UInt8} {T:List TokS} {y:Int×Int×List Trm} (h:TL T s) (hl:s.length≤60000) (hy:ParseIs s y) (h0:y.1=0):∃ (l:List Tok) (d b:Nat) (e:List Trm),toksOK l∧zL l∧PreT T l 0∧go l d (.lv 1 0)=some (.ok b e):=by
 obtain ⟨tks,x,h1,h2⟩:=lex_all (h.2.2.2 [] noWord.nil) hl
 have hz:zL (tks++[(5,[],0,x)]):=fun a ha=>by
  by_cases hlt:a<tks.length
  ·have e:tkD (tks++[(5,[],0,x)]) a=tks[a]:=by
    unfold tkD
    rw [List.getD_eq_getElem?_getD,List.getElem?_append_left hlt,List.getElem?_eq_getElem hlt];rfl
   rw [e] at ha ⊢
   have hm:strip tks[a]∈T:=by rw [←h2];exact List.mem_map_of_mem (List.getElem_mem hlt)
   exact h.2.2.1 _ hm ha
  ·unfold tkD
   rw [List.getD_eq_getElem?_getD,List.getElem?_append_right (by omega)]
   cases hk:a-tks.length with
   | zero=>rfl
   | succ k=>rfl
 have hp:=preT_of tks [] [(5,[],0,x)]
 rw [h2] at hp
 rcases hy with ⟨e,x',l,g1,g2,rfl⟩ | ⟨x',l,r,g1,g2,rfl⟩
 ·exact absurd h0 g2
 ·obtain ⟨hlk,_,_⟩:=lexS_ok g1
  have e1:l=tks++[(5,[],0,x)]:=by
   rw [h1] at g1
   exact (congrArg (·.2.2) g1).symm
  subst e1
  cases r with
  | bad k=>exact absurd h0 (by show ¬ ((2:Int)=0);decide)
  | ok b e=>
    obtain ⟨d,hd⟩:=g2.run
    exact ⟨_,d,b,e,hlk,hz,hp,hd⟩
section
variable {l:List Tok} (hl:toksOK l) (hz:zL l)
include hl hz
theorem un_op {a d b:Nat} {e:List Trm} {T:List TokS} (hT:Bal T) (hp:PreT (inB T) l a) (h:go l d (.un a)=some (.ok b e)):OpD T∧b=a+(T.length+2):=by
 obtain ⟨D,d1,d2,d3⟩:=bra_drv hT hp (qdo hl hz d (.un a) _ (by show 1≤6;omega) hp.1.1 h)
 exact ⟨⟨D,d1,d2⟩,d3⟩
theorem op_bin {a d b:Nat} {e:List Trm} {T U:List TokS} {k:Int} (hk:6≤k∧k≤16) (hT:Bal T) (hU:Bal U) (hp:PreT (inB T++((4,opW k,0)::inB U)) l a) (h:go l d (.lv 1 a)=some (.ok b e)):OpD T∧OpD U:=by
 obtain ⟨p1,⟨p2,p3⟩,p4⟩:=PreT.app _ _ _ _ hp
 have hlen:a+(inB T).length=a+(T.length+2):=by simp
 rw [hlen] at p2 p3 p4
 have hs:=sgE_of hk p3
 have hlv:=qex k
 obtain ⟨d1,b1,e1,r1⟩:=lv_un 5 1 d a b e rfl h
 have o1:=un_op hl hz hT p1 r1
 have h5:(sgE l (a+(T.length+2))).2≤5:=by rw [hs];exact hlv.2
 obtain ⟨d2,b2,e2,r2⟩:=(lv_second (fun d b' e' g=>(un_op hl hz hT p1 g).2) h5 5 1 d b e rfl h).2 (by rw [hs];exact hlv.1)
 exact ⟨o1.1,(un_op hl hz hU p4 r2).1⟩
theorem op_un2 {d b:Nat} {e:List Trm} {T:List TokS} {k m:Int} (hk:k=4∨k=5) (hm:m=4∨m=5) (hT:Bal T) (hp:PreT ((4,unW k,0)::(4,unW m,0)::inB T) l 0) (h:go l d (.lv 1 0)=some (.ok b e)):OpD T:=by
 obtain ⟨d1,b1,e1,r1⟩:=lv_un 5 1 d 0 b e rfl h
 obtain ⟨⟨_,p1⟩,⟨_,p2⟩,p3⟩:=hp
 have un:∀ {k:Int} {a:Nat},(k=4∨k=5)→strip (tkD l a)=(4,unW k,0)→isS l a [33]=true∨isS l a [45]=true:=fun {k a} hk p=>by
  rcases hk with rfl | rfl
  ·exact .inl (qbe p)
  ·exact .inr (qbe p)
 obtain ⟨d2,b2,e2,r2⟩:=un_sign (un hk p1) r1
 obtain ⟨d3,b3,e3,r3⟩:=un_sign (un hm p2) r2
 exact (un_op hl hz hT p3 r3).1
theorem op_unbin {d b:Nat} {e:List Trm} {T U:List TokS} {k:Int} (hk:6≤k∧k≤16) (hT:Bal T) (hU:Bal U) (hp:PreT ((4,unW 4,0)::inB (inB T++((4,opW k,0)::inB U))) l 0) (h:go l d (.lv 1 0)=some (.ok b e)):OpD T∧OpD U:=by
 obtain ⟨d1,b1,e1,r1⟩:=lv_un 5 1 d 0 b e rfl h
 obtain ⟨⟨_,p1⟩,⟨_,p2⟩,p3⟩:=hp
 obtain ⟨d2,b2,e2,r2⟩:=un_sign (.inl (qbe p1)) r1
 obtain ⟨d3,b3,e3,r3⟩:=un_bra (qbe p2) r2
 exact op_bin hl hz hk hT hU (PreT.app _ _ _ _ p3).1 r3
end
theorem qe6 {D:De} (hD:D.ok) {s:List UInt8} {y:Int×Int×List Trm} (h:TL D.toks s) (hl:s.length≤60000) (hy:ParseIs s y) (h0:y.1=0):y.2.2=D.tree.flat∧D.tree.flat.length≤30:=by
 rcases De.parse hD (h.2.2.2 [] noWord.nil) hl with h1 | ⟨a,h1,h2⟩
 ·have:=hy.det h1
  subst this
  by_cases h30:30<D.tree.flat.length
  ·rw [if_pos h30] at h0
   exact absurd h0 (by decide)
  ·rw [if_neg h30]
   exact ⟨rfl,by omega⟩
 ·have:=hy.det h1
  subst this
  exact absurd h0 (by show ¬ ((13:Int)=0);decide)
section
variable {vs:List Vrb} {ps:List Pcs} (ts:List Trn)
noncomputable def kl (vs:List Vrb) (ps:List Pcs) (ts:List Trn) (x:Trm):Bool:=
 if x.1=2 then !decide ((M74 vs ps ts x.2.2.1).getD 0<0) else if x.1=3 then !decide ((M77 vs ps ts ((M75 vs ps ts x.2.2.1).getD 0) x.2.2.2).getD 0<0) else true
theorem qej (hg:smallG vs ps) (e:List Trm) (he:shortE e):∀ (t i n:Nat),i+t=e.length→t<n→R37 M74 M75 M77 M36 vs ps ts e n (.l0 i)=some ((e.drop i).all (kl vs ps ts) && rightE e)
 | t,i,0,hi,hn=>by omega
 | 0,i,n+1,hi,hn=>by
   show T37 Ops.std _ _ _ _ vs ps ts e _ some _=_
   unfold T37
   simp only [qah,qaa]
   rw [if_neg (by omega),he.rtR,ob_s,List.drop_eq_nil_of_le (by omega)]
   rfl
 | t+1,i,n+1,hi,hn=>by
   have ih:=qej hg e he t (i+1) n (by omega) (by omega)
   have h30:=he.1
   obtain ⟨x,hx⟩:∃ x,e.getD i (Ty.dflt ty56)=x:=⟨_,rfl⟩
   rw [qa3 (Ty.dflt ty56) (show i<e.length by omega),hx,List.all_cons]
   show T37 Ops.std _ _ _ _ vs ps ts e _ some _=_
   unfold T37
   simp only [qah,qak,qan,qaa,qab,hx,show IntKind.wrap IntKind.i64 ((i:Int)+1)=((i+1:Nat):Int) from qai (by omega)]
   rw [if_pos (by omega),if_pos (by omega)]
   obtain ⟨r,r1,r2⟩:=qcj vs ps ts hg.v x.2.2.1
   obtain ⟨q,q1,q2⟩:=qdf vs ps ts hg.p x.2.2.1
   obtain ⟨z,z1,z2⟩:=place_ok vs ps ts hg.l q q2 x.2.2.2
   by_cases h2:x.1=2
   ·have hkl:kl vs ps ts x=!decide (r<0):=by unfold kl;rw [if_pos h2,r1];rfl
    rw [if_pos h2,if_pos (by omega),r1,ob_s,hkl]
    by_cases hr:r<0
    ·rw [if_pos hr,decide_eq_true hr];rfl
    ·rw [if_neg hr,if_pos (by omega),if_neg (by omega),decide_eq_false hr]
     exact ih
   ·rw [if_neg h2,if_pos (by omega)]
    by_cases h3:x.1=3
    ·have hkl:kl vs ps ts x=!decide (z<0):=by unfold kl;rw [if_neg h2,if_pos h3,q1];simp only [Option.getD_some,z1]
     rw [if_pos h3,if_pos (by omega),if_pos (by omega),q1,ob_s,z1,ob_s,hkl]
     by_cases hz:z<0
     ·rw [if_pos hz,decide_eq_true hz];rfl
     ·rw [if_neg hz,decide_eq_false hz]
      exact ih
    ·have hkl:kl vs ps ts x=true:=by unfold kl;rw [if_neg h2,if_neg h3]
     rw [if_neg h3,hkl]
     exact ih
theorem knB_all (hg:smallG vs ps) {t:Et} (ht:t.wf) (hl:t.flat.length≤30):knB vs ps ts t.flat=t.flat.all (kl vs ps ts):=by
 have hs:=Et.short ht hl
 have:M37 vs ps ts t.flat=some (t.flat.all (kl vs ps ts) && rightE t.flat):=by
  show T37 Ops.std M74 M75 M77 M36 vs ps ts t.flat (R37 M74 M75 M77 M36 vs ps ts t.flat 1000000) some none=_
  unfold T37
  exact qej ts hg t.flat hs t.flat.length 0 1000000 (by omega) (by omega)
 unfold knB
 rw [this,qeb ht hl,Bool.and_true]
 rfl
end
def Et.kn (f:Trm→Bool):Et→Bool
 | .nul t=>f t
 | .un _ x=>x.kn f
 | .bi _ x y=>x.kn f && y.kn f
theorem qek {f:Trm→Bool} (hf:∀ k:Int,4≤k→f (k,0,[],[])=true):∀ t:Et,t.wf→t.flat.all f=t.kn f
 | .nul t,h=>by simp [Et.flat,Et.kn]
 | .un k x,h=>by
   simp only [Et.flat,Et.kn,List.all_append,List.all_cons,List.all_nil,qek hf x h.2,hf k (by rcases h.1 with rfl | rfl<;>decide),Bool.and_true]
 | .bi k x y,h=>by
   simp only [Et.flat,Et.kn,List.all_append,List.all_cons,List.all_nil,qek hf x h.2.1,qek hf y h.2.2,hf k (by have:=h.1;omega),Bool.and_true]
def gdL (lf:Trm→Int):Prop:=(∀ x,mayT x=true→bdV (lf x))∧lf (1,0,[],[])=0
noncomputable abbrev Ev (s1 s2:List Int) (e:List Trm):=M33 gV gP [] s1 s2 e
theorem same_val {t u:Et} (ht:t.wf) (hu:u.wf) (hl:t.flat.length≤30) (hlu:u.flat.length≤30) (hk:t.kn (kl gV gP [])=u.kn (kl gV gP [])) (he:∀ lf:Trm→Int,gdL lf→evT lf t=evT lf u) (g1 g2:Nat) (a b:Int):∃ v,Ev [(g1:Int),(g2:Int)] [a,b] t.flat=some v∧Ev [(g1:Int),(g2:Int)] [a,b] u.flat=some v:=by
 have hf:∀ k:Int,4≤k→kl gV gP [] (k,0,[],[])=true:=fun k h=>by
  unfold kl
  rw [if_neg (by show ¬ k=2;omega),if_neg (by show ¬ k=3;omega)]
 unfold Ev
 rw [evalP_eq [] gG _ _ _ (Et.short ht hl),eval_is [] gG _ _ rfl rfl t ht (Et.short ht hl),evalP_eq [] gG _ _ _ (Et.short hu hlu),eval_is [] gG _ _ rfl rfl u hu (Et.short hu hlu),knB_all [] gG ht hl,knB_all [] gG hu hlu,qek hf t ht,qek hf u hu,hk,he _ ⟨fun x hx=>lfV_bd [] _ _ x hx,rfl⟩]
 exact ⟨_,rfl,rfl⟩
theorem ar0 (a b:Int):unV 4 (twoV 15 a b)=twoV 16 (unV 4 a) (unV 4 b):=by
 by_cases h1:a=0<;>by_cases h2:b=0<;>simp [unV,twoV,trI,h1,h2]
theorem ar1 (a b:Int):twoV 9 a b=unV 4 (twoV 12 a b):=by
 by_cases h:a<b
 ·have h2:¬ b≤a:=by omega
  simp [unV,twoV,trI,h,h2]
 ·have h2:b≤a:=by omega
  simp [unV,twoV,trI,h,h2]
theorem ar2 (a b:Int):twoV 13 a b=unV 4 (twoV 14 a b):=by
 by_cases h:a=b<;>simp [unV,twoV,trI,h]
theorem ar3 (a b:Int):twoV 7 a b=twoV 7 b a:=by simp [twoV,Int.add_comm]
theorem ar4 (a b:Int):twoV 6 a b=twoV 6 b a:=by simp [twoV,Int.mul_comm]
theorem ar5 (a b:Int):twoV 8 a b=unV 5 (twoV 8 b a):=by
 have e1:twoV 8 a b=clamp (a-b):=by simp [twoV]
 have e2:unV 5 (twoV 8 b a)=clamp (- clamp (b-a)):=by simp [unV,twoV]
 rw [e1,e2]
 unfold clamp
 (repeat' split)<;>omega
theorem ar6 (a:Int):unV 4 (unV 4 a)=twoV 14 a 0:=by
 by_cases h:a=0<;>simp [unV,twoV,trI,h]
theorem ar7 (a b:Int):twoV 10 a b=twoV 12 b a:=by simp [twoV]
theorem ar8 {a:Int} (h:bdV a):unV 5 (unV 5 a)=a:=by
 have e2:unV 5 (unV 5 a)=clamp (- clamp (- a)):=by simp [unV]
 rw [e2]
 unfold clamp
 unfold bdV at h
 (repeat' split)<;>omega
def OkP (p q:List UInt8):Prop:=p.length≤60000∧q.length≤60000∧∀ (g1 g2:Nat) (a b:Int) (y z:Int×Int×List Trm),ParseIs p y→ParseIs q z→y.1=0→z.1=0→∃ v,Ev [(g1:Int),(g2:Int)] [a,b] y.2.2=some v∧Ev [(g1:Int),(g2:Int)] [a,b] z.2.2=some v
theorem two_ok {p q:List UInt8} (hp:p.length≤60000) (hq:q.length≤60000) (H:∀ y,ParseIs p y→y.1=0→∃ D E:De,D.ok∧E.ok∧TL D.toks p∧TL E.toks q∧D.tree.kn (kl gV gP [])=E.tree.kn (kl gV gP [])∧∀ lf:Trm→Int,gdL lf→evT lf D.tree=evT lf E.tree):OkP p q:=by
 refine ⟨hp,hq,fun g1 g2 a b y z hy hz h0 h1=>?_⟩
 obtain ⟨D,E,d1,e1,d2,e2,hk,he⟩:=H y hy h0
 obtain ⟨f1,f2⟩:=qe6 d1 d2 hp hy h0
 obtain ⟨f3,f4⟩:=qe6 e1 e2 hq hz h1
 rw [f1,f3]
 exact same_val (D.tree_wf d1) (E.tree_wf e1) f2 f4 hk he g1 g2 a b
section
variable {s t:List UInt8} {T U:List TokS} (hs:TL T s) (ht:TL U t) (ls:s.length≤400) (lt:t.length≤400)
theorem lvO_7 {k:Int}:lfO (lvO k)≤7∧lvO k+1≤7:=by
 have:=qex k
 unfold lfO
 constructor
 ·split<;>omega
 ·omega
theorem bi_ok {k:Int} (hk:6≤k∧k≤16) {D E:De} (hD:D.ok) (hE:E.ok):(De.bi k (.bra D) (.bra E)).ok:=⟨hk,lvO_7.1,lvO_7.2,hD,hE⟩
include hs ht ls lt in
theorem ok_bin {k:Int} (hk:6≤k∧k≤16) {q:List UInt8} (hq:q.length≤60000) (H:∀ D E:De,D.ok→E.ok→TL D.bra.toks ([40]++s++[41])→TL E.bra.toks ([40]++t++[41])→∃ F:De,F.ok∧TL F.toks q∧(D.tree.kn (kl gV gP []) && E.tree.kn (kl gV gP []))=F.tree.kn (kl gV gP [])∧∀ lf:Trm→Int,gdL lf→twoV k (evT lf D.tree) (evT lf E.tree)=evT lf F.tree):OkP (([40]++s++[41])++opW k++([40]++t++[41])) q:=by
 have hl:=qci k
 have hp:(([40]++s++[41])++opW k++([40]++t++[41])).length≤60000:=by simp;omega
 refine two_ok hp hq fun y hy h0=>?_
 have hT:=hs.bra.bin hk ht.bra
 obtain ⟨l,d,b,e,r1,r2,r3,r4⟩:=qei hT hp hy h0
 obtain ⟨⟨D,d1,d2⟩,⟨E,e1,e2⟩⟩:=op_bin r1 r2 hk hs.2.1 ht.2.1 r3 r4
 have hA:TL D.bra.toks ([40]++s++[41]):=by rw [d2];exact hs.bra
 have hB:TL E.bra.toks ([40]++t++[41]):=by rw [e2];exact ht.bra
 obtain ⟨F,f1,f2,f3,f4⟩:=H D E d1 e1 hA hB
 exact ⟨.bi k (.bra D) (.bra E),F,bi_ok hk d1 e1,f1,hA.bin hk hB,f2,f3,f4⟩
include hs ls in
theorem ok_un2 {k:Int} (hk:k=4∨k=5) {q:List UInt8} (hq:q.length≤60000) (H:∀ D:De,D.ok→TL D.bra.toks ([40]++s++[41])→∃ F:De,F.ok∧TL F.toks q∧D.tree.kn (kl gV gP [])=F.tree.kn (kl gV gP [])∧∀ lf:Trm→Int,gdL lf→unV k (unV k (evT lf D.tree))=evT lf F.tree):OkP (unW k++(unW k++([40]++s++[41]))) q:=by
 have hl:=unW_len k
 have hp:(unW k++(unW k++([40]++s++[41]))).length≤60000:=by simp;omega
 refine two_ok hp hq fun y hy h0=>?_
 have hT:=(hs.bra.un hk).un hk
 obtain ⟨l,d,b,e,r1,r2,r3,r4⟩:=qei hT hp hy h0
 obtain ⟨D,d1,d2⟩:=op_un2 r1 r2 hk hk hs.2.1 r3 r4
 have hA:TL D.bra.toks ([40]++s++[41]):=by rw [d2];exact hs.bra
 obtain ⟨F,f1,f2,f3,f4⟩:=H D d1 hA
 exact ⟨.un k (.un k (.bra D)),F,⟨hk,Nat.le_refl 6,hk,by show 6≤7;omega,d1⟩,f1,(hA.un hk).un hk,f2,f3,f4⟩
include hs ht ls lt in
theorem ok_0:OkP (unW 4++([40]++(([40]++s++[41])++opW 15++([40]++t++[41]))++[41])) ((unW 4++([40]++s++[41]))++opW 16++(unW 4++([40]++t++[41]))):=by
 have hl:=qci 15
 have hl2:=qci 16
 have hu:=unW_len 4
 have hp:(unW 4++([40]++(([40]++s++[41])++opW 15++([40]++t++[41]))++[41])).length≤60000:=by simp;omega
 have hq:((unW 4++([40]++s++[41]))++opW 16++(unW 4++([40]++t++[41]))).length≤60000:=by simp;omega
 refine two_ok hp hq fun y hy h0=>?_
 have k15:(6:Int)≤15∧(15:Int)≤16:=by decide
 have k16:(6:Int)≤16∧(16:Int)≤16:=by decide
 have hT:=(hs.bra.bin k15 ht.bra).bra.un (k:=4) (.inl rfl)
 obtain ⟨l,d,b,e,r1,r2,r3,r4⟩:=qei hT hp hy h0
 obtain ⟨⟨D,d1,d2⟩,⟨E,e1,e2⟩⟩:=op_unbin r1 r2 k15 hs.2.1 ht.2.1 r3 r4
 have hA:TL D.bra.toks ([40]++s++[41]):=by rw [d2];exact hs.bra
 have hB:TL E.bra.toks ([40]++t++[41]):=by rw [e2];exact ht.bra
 refine ⟨.un 4 (.bra (.bi 15 (.bra D) (.bra E))),.bi 16 (.un 4 (.bra D)) (.un 4 (.bra E)),⟨.inl rfl,by show 6≤7;omega,bi_ok k15 d1 e1⟩,⟨k16,by show 1≤6;omega,by show 2≤6;omega,⟨.inl rfl,by show 6≤7;omega,d1⟩,⟨.inl rfl,by show 6≤7;omega,e1⟩⟩,(hA.bin k15 hB).bra.un (.inl rfl),(hA.un (.inl rfl)).bin k16 (hB.un (.inl rfl)),rfl,fun lf hlf=>ar0 _ _⟩
theorem not_bin {k:Int} (hk:6≤k∧k≤16) {D E:De} (d1:D.ok) (e1:E.ok) (hA:TL D.bra.toks ([40]++s++[41])) (hB:TL E.bra.toks ([40]++t++[41])) {u:Int} (hu:u=4∨u=5):(De.un u (.bra (.bi k (.bra D) (.bra E)))).ok∧TL (De.un u (.bra (.bi k (.bra D) (.bra E)))).toks (unW u++([40]++(([40]++s++[41])++opW k++([40]++t++[41]))++[41])):=
 ⟨⟨hu,by show 6≤7;omega,bi_ok hk d1 e1⟩,(hA.bin hk hB).bra.un hu⟩
include hs ht ls lt in
theorem ok_not {k m:Int} (hk:6≤k∧k≤16) (hm:6≤m∧m≤16) (har:∀ a b,twoV k a b=unV 4 (twoV m a b)):OkP (([40]++s++[41])++opW k++([40]++t++[41])) (unW 4++([40]++(([40]++s++[41])++opW m++([40]++t++[41]))++[41])):=by
 have hl:=qci m
 have hu:=unW_len 4
 refine ok_bin hs ht ls lt hk (by simp;omega) fun D E d1 e1 hA hB=>?_
 obtain ⟨f1,f2⟩:=not_bin hm d1 e1 hA hB (u:=4) (.inl rfl)
 exact ⟨_,f1,f2,rfl,fun lf hlf=>har _ _⟩
include hs ht ls lt in
theorem ok_swap {k m:Int} (hk:6≤k∧k≤16) (hm:6≤m∧m≤16) (har:∀ a b,twoV k a b=twoV m b a):OkP (([40]++s++[41])++opW k++([40]++t++[41])) (([40]++t++[41])++opW m++([40]++s++[41])):=by
 have hl:=qci m
 refine ok_bin hs ht ls lt hk (by simp;omega) fun D E d1 e1 hA hB=>?_
 exact ⟨.bi m (.bra E) (.bra D),bi_ok hm e1 d1,hB.bin hm hA,Bool.and_comm _ _,fun lf hlf=>har _ _⟩
include hs ht ls lt in
theorem ok_5:OkP (([40]++s++[41])++opW 8++([40]++t++[41])) (unW 5++([40]++(([40]++t++[41])++opW 8++([40]++s++[41]))++[41])):=by
 have hl:=qci 8
 have hu:=unW_len 5
 have k8:(6:Int)≤8∧(8:Int)≤16:=by decide
 refine ok_bin hs ht ls lt k8 (by simp;omega) fun D E d1 e1 hA hB=>?_
 obtain ⟨f1,f2⟩:=not_bin k8 e1 d1 hB hA (u:=5) (.inr rfl)
 exact ⟨_,f1,f2,Bool.and_comm _ _,fun lf hlf=>ar5 _ _⟩
theorem nul_0:nulT (1,0,[],[]):=⟨mayN (by omega),.inl rfl⟩
include hs ls in
theorem ok_6:OkP (unW 4++(unW 4++([40]++s++[41]))) (([40]++s++[41])++opW 14++[48]):=by
 have hl:=qci 14
 have k14:(6:Int)≤14∧(14:Int)≤16:=by decide
 refine ok_un2 hs ls (.inl rfl) (by simp;omega) fun D d1 hA=>?_
 have h0:TL (De.nul (1,0,[],[]) [48]).toks [48]:=⟨⟨48,[],rfl,by decide,by decide⟩,De.bal (.nul (1,0,[],[]) [48]) nul_0,zT.one (.inl rfl),fun r hr=>qee r (by simp) rfl (by decide) hr⟩
 refine ⟨.bi 14 (.bra D) (.nul (1,0,[],[]) [48]),⟨k14,lvO_7.1,lvO_7.2,d1,nul_0⟩,hA.bin k14 h0,?_,fun lf hlf=>?_⟩
 ·show _=(_ && kl gV gP [] (1,0,[],[]))
  have:kl gV gP [] (1,0,[],[])=true:=by unfold kl;rw [if_neg (by decide),if_neg (by decide)]
  rw [this,Bool.and_true]
  rfl
 ·show unV 4 (unV 4 (evT lf D.tree))=twoV 14 (evT lf D.tree) (lf (1,0,[],[]))
  rw [hlf.2]
  exact ar6 _
include hs ls in
theorem ok_8:OkP (unW 5++(unW 5++([40]++s++[41]))) ([40]++s++[41]):=by
 refine ok_un2 hs ls (.inr rfl) (by simp;omega) fun D d1 hA=>?_
 exact ⟨.bra D,d1,hA,rfl,fun lf hlf=>ar8 (evT_bd lf hlf.1 _ (D.tree_wf d1))⟩
end
theorem condT8 {X Y:Option Bool} {b:Bool} (h:b=true):cond b X Y=X:=by rw [h];rfl
def prs (A B:List UInt8):List (List UInt8):=
 [[33,40]++A++[38,38]++B++[41],[33]++A++[124,124,33]++B,A++[60]++B,[33,40]++A++[62,61]++B++[41],A++[61,61]++B,[33,40]++A++[33,61]++B++[41],A++[43]++B,B++[43]++A,A++[42]++B,B++[42]++A,A++[45]++B,[45,40]++B++[45]++A++[41],[33,33]++A,A++[33,61,48],A++[60,61]++B,B++[62,61]++A,[45,45]++A,A]
section
variable {s t:List UInt8} {T U:List TokS} (hs:TL T s) (ht:TL U t) (ls:s.length≤400) (lt:t.length≤400)
include hs ht ls lt in
theorem prs_ok:∀ i,i<9→OkP ((prs ([40]++s++[41]) ([40]++t++[41])).getD (i*2) []) ((prs ([40]++s++[41]) ([40]++t++[41])).getD (i*2+1) []):=by
 have ex:∀ {p q p' q':List UInt8},OkP p q→p=p'→q=q'→OkP p' q':=fun h e1 e2=>by rw [←e1,←e2];exact h
 intro i hi
 match i,hi with
 | 0,_=>exact ex (ok_0 hs ht ls lt) (by simp [prs,unW,opW]) (by simp [prs,unW,opW])
 | 1,_=>exact ex (ok_not hs ht ls lt (k:=9) (m:=12) (by omega) (by omega) ar1) (by simp [prs,opW]) (by simp [prs,unW,opW])
 | 2,_=>exact ex (ok_not hs ht ls lt (k:=13) (m:=14) (by omega) (by omega) ar2) (by simp [prs,opW]) (by simp [prs,unW,opW])
 | 3,_=>exact ex (ok_swap hs ht ls lt (k:=7) (m:=7) (by omega) (by omega) ar3) (by simp [prs,opW]) (by simp [prs,opW])
 | 4,_=>exact ex (ok_swap hs ht ls lt (k:=6) (m:=6) (by omega) (by omega) ar4) (by simp [prs,opW]) (by simp [prs,opW])
 | 5,_=>exact ex (ok_5 hs ht ls lt) (by simp [prs,opW]) (by simp [prs,unW,opW])
 | 6,_=>exact ex (ok_6 hs ls) (by simp [prs,unW]) (by simp [prs,opW])
 | 7,_=>exact ex (ok_swap hs ht ls lt (k:=10) (m:=12) (by omega) (by omega) ar7) (by simp [prs,opW]) (by simp [prs,opW])
 | 8,_=>exact ex (ok_8 hs ls) (by simp [prs,unW]) (by simp [prs])
end
noncomputable abbrev lwR (p0 p1:List Int) (p2 p3 p4:Int):=R8 M14 M16 M24 M28 M17 M33 p0 p1 p2 p3 p4
theorem laws_l0 (p0 p1:List Int) (p2 p3 p4:Int) (g1 g2:Nat) (a b:Int) (s1 s2 s3 s4 s5 s6 s7 s8 s9 s10 s11 s12 s13 s14 s15 s16 s17 s18:List UInt8) (h:∀ i,i<9→OkP ([s1,s2,s3,s4,s5,s6,s7,s8,s9,s10,s11,s12,s13,s14,s15,s16,s17,s18].getD (i*2) []) ([s1,s2,s3,s4,s5,s6,s7,s8,s9,s10,s11,s12,s13,s14,s15,s16,s17,s18].getD (i*2+1) [])):∀ (q i m:Nat),i+q=9→q<m→lwR p0 p1 p2 p3 p4 m (.l0 i s1 s2 s3 s4 s5 s6 s7 s8 s9 s10 s11 s12 s13 s14 s15 s16 s17 s18 gV gP [] [(g1:Int),(g2:Int)] [a,b])=some true:=by
 intro q
 induction q with
 | zero=>
   intro i m hi hm
   obtain ⟨m,rfl⟩:∃ n,m=n+1:=⟨m-1,by omega⟩
   have hU:lwR p0 p1 p2 p3 p4 (m+1) (.l0 i s1 s2 s3 s4 s5 s6 s7 s8 s9 s10 s11 s12 s13 s14 s15 s16 s17 s18 gV gP [] [(g1:Int),(g2:Int)] [a,b])=T8 Ops.std M14 M16 M24 M28 M17 M33 p0 p1 p2 p3 p4 (lwR p0 p1 p2 p3 p4 m) some (some (.l0 i s1 s2 s3 s4 s5 s6 s7 s8 s9 s10 s11 s12 s13 s14 s15 s16 s17 s18 gV gP [] [(g1:Int),(g2:Int)] [a,b])):=rfl
   rw [hU]
   unfold T8
   simp only [qah,qaa]
   rw [if_neg (by omega)]
 | succ q ihq=>
   intro i m hi hm
   obtain ⟨m,rfl⟩:∃ n,m=n+1:=⟨m-1,by omega⟩
   have hU:lwR p0 p1 p2 p3 p4 (m+1) (.l0 i s1 s2 s3 s4 s5 s6 s7 s8 s9 s10 s11 s12 s13 s14 s15 s16 s17 s18 gV gP [] [(g1:Int),(g2:Int)] [a,b])=T8 Ops.std M14 M16 M24 M28 M17 M33 p0 p1 p2 p3 p4 (lwR p0 p1 p2 p3 p4 m) some (some (.l0 i s1 s2 s3 s4 s5 s6 s7 s8 s9 s10 s11 s12 s13 s14 s15 s16 s17 s18 gV gP [] [(g1:Int),(g2:Int)] [a,b])):=rfl
   have ih:=ihq (i+1) m (by omega) (by omega)
   rw [hU]
   unfold T8
   obtain ⟨_,_,hi9⟩:=h i (by omega)
   simp only [mt]
   generalize [s1,s2,s3,s4,s5,s6,s7,s8,s9,s10,s11,s12,s13,s14,s15,s16,s17,s18]=L at hi9 ⊢
   obtain ⟨y,hy,hpy⟩:=qe1 (L.getD (i*2) [])
   obtain ⟨z,hz,hpz⟩:=qe1 (L.getD (i*2+1) [])
   have hpy':M17 (L.getD (i*2+0) [])=some y:=hpy
   have hv:=hi9 g1 g2 a b y z hy hz
   have hw:IntKind.wrap IntKind.i64 ((i:Int)+1)=((i+1:Nat):Int):=qai (by omega)
   simp only [hw]
   simp only [qah,qak,qan,qbd,qaa,qab,show Int.toNat (0:Int)=0 from rfl,show Int.toNat (1:Int)=1 from rfl,hpy',hpz,ob_s]
   have i1:(0:Int)≤(i:Int)∧(i:Int)<((9:Nat):Int):=by omega
   rw [if_pos (by omega),if_pos i1,if_pos (by omega),if_pos (by omega),if_pos i1,if_pos (by omega),if_pos (by omega)]
   by_cases h0:y.1=0
   ·by_cases h1:z.1=0
    ·obtain ⟨v,v1,v2⟩:=hv h0 h1
     have v1':M33 gV gP [] [(g1:Int),(g2:Int)] [a,b] (Prod.snd (Prod.snd y))=some v:=v1
     have v2':M33 gV gP [] [(g1:Int),(g2:Int)] [a,b] (Prod.snd (Prod.snd z))=some v:=v2
     rw [if_neg (fun h=>h h0),if_neg (fun h=>h h1),v1',ob_s,v2',ob_s,if_neg (fun h=>h rfl)]
     exact ih
    ·rw [if_neg (fun h=>h h0),if_pos h1]
     exact ih
   ·rw [if_pos h0]
    exact ih
theorem plainExprLaws (p0 p1:List Int) (p2 p3 p4:Int) (w0:Ty.wf ty22 p0) (w1:Ty.wf ty22 p1) (w2:(Lit.int .i64 p2).wf=true) (w3:(Lit.int .i64 p3).wf=true) (w4:(Lit.int .i64 p4).wf=true):M8 p0 p1 p2 p3 p4=some true:=by
 have hM:M8 p0 p1 p2 p3 p4=T8 Ops.std M14 M16 M24 M28 M17 M33 p0 p1 p2 p3 p4 (lwR p0 p1 p2 p3 p4 1000000) some none:=rfl
 obtain ⟨s,hs,ls,T,hT⟩:=ExprX_ok p0
 obtain ⟨t,ht,lt,U,hU⟩:=ExprX_ok p1
 obtain ⟨k4,_,h4⟩:=pickN p2 30 (by omega) (by omega)
 obtain ⟨k5,_,h5⟩:=pickN p3 7 (by omega) (by omega)
 have h4':M24 p2 30=some (k4:Int):=h4
 have h5':M24 p3 7=some (k5:Int):=h5
 obtain ⟨g1,g2,hg⟩:=ground_ok (IntKind.wrap IntKind.i64 ((k4:Int)-15)) (IntKind.wrap IntKind.i64 ((k5:Int)-3)) p4
 have hprs:=prs_ok hT hU (by omega) (by omega)
 rw [hM]
 unfold T8
 simp only [known8_ok,ob_s,Bool.not_true,cond_false,hs,ht,h4',h5',hg]
 simp only [qbc,List.length_append,List.length_cons,List.length_nil]
 repeat (refine (condT8 (b:=decide _) (decide_eq_true (by omega))).trans ?_)
 refine laws_l0 p0 p1 p2 p3 p4 g1 g2 _ _ _ _ _ _ _ _ _ _ _ _ _ _ _ _ _ _ _ _ hprs 9 0 1000000 rfl (by omega)
end Go.Proofs.YtkmpkebaloejhaaDoor.Av
