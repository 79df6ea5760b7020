/- The plain law of FormulaRight: what its twin computes answers true. Conditions: none. -/
import Derived.Test.YtkmpkebaloejhaaGreatDoorPFormulaRighta
set_option linter.unusedSimpArgs false
set_option linter.unusedVariables false
set_option maxRecDepth 100000
namespace Go.Proofs.YtkmpkebaloejhaaGreatDoor.Av
open Go
inductive Et where
 | nul (t:Trm)
 | un (k:Int) (x:Et)
 | bi (k:Int) (x y:Et)
def lvO (k:Int):Nat:=if k=6 then 5 else if k=7∨k=8 then 4 else if k=15 then 2 else if k=16 then 1 else 3
theorem lvO_le (k:Int):1≤lvO k∧lvO k≤5:=by unfold lvO;(repeat' split)<;>omega
def Et.flat:Et→List Trm
 | .nul t=>[t]
 | .un k x=>x.flat++[(k,0,[],[])]
 | .bi k x y=>x.flat++y.flat++[(k,0,[],[])]
def nulT (t:Trm):Prop:=mayT t=true∧(t.1=1∨t.1=2∨t.1=3)
def Et.wf:Et→Prop
 | .nul t=>nulT t
 | .un k x=>(k=4∨k=5)∧x.wf
 | .bi k x y=>(6≤k∧k≤16)∧x.wf∧y.wf
def Et.lv:Et→Nat
 | .nul _=>7
 | .un _ _=>6
 | .bi k _ _=>lvO k
theorem nulT.op {t:Trm} (h:nulT t):opE t.1=0:=by
 obtain ⟨_,h | h | h⟩:=h<;>rw [h]<;>rfl
theorem opE_un {k:Int} (h:k=4∨k=5):opE k=1:=by rcases h with rfl | rfl<;>rfl
theorem opE_bi {k:Int} (h:6≤k∧k≤16):opE k=2:=by unfold opE;(repeat' split)<;>omega
theorem Et.good:∀ (t:Et),t.wf→goodE t.flat
 | .nul t,h=>goodE.nul h.1 h.op
 | .un k x,h=>(x.good h.2).un (qfq (by have:=h.1;omega) (by have:=h.1;omega)) (opE_un h.1)
 | .bi k x y,h=>(x.good h.2.1).bi (y.good h.2.2) (qfq (by have:=h.1.1;omega) h.1.2) (opE_bi h.1)
theorem qbz {α:Type} {l l':List α} {x x':α} (h:l++[x]=l'++[x']):l=l'∧x=x':=by
 have:=List.append_inj' h rfl
 exact ⟨this.1,by simpa using this.2⟩
theorem Et.inj:∀ (t t':Et) (l l':List Trm),t.wf→t'.wf→l++t.flat=l'++t'.flat→l=l'∧t=t':=by
 have kind:∀ {t:Trm} {k:Int},nulT t→t=(k,0,[],[])→4≤k→False:=fun {t k} h e hk=>by
  have h1:t.1=k:=congrArg (·.1) e
  have h2:=h.2
  omega
 intro t
 induction t with
 | nul t=>
   intro t' l l' h h' e
   cases t' with
   | nul t'=>
     obtain ⟨e1,e2⟩:=qbz e
     exact ⟨e1,by rw [e2]⟩
   | un k x=>
     simp only [Et.flat,←List.append_assoc] at e
     exact (kind h (qbz e).2 (by rcases h'.1 with rfl | rfl<;>decide)).elim
   | bi k x y=>
     simp only [Et.flat,←List.append_assoc] at e
     exact (kind h (qbz e).2 (by have:=h'.1.1;omega)).elim
 | un k x ih=>
   intro t' l l' h h' e
   cases t' with
   | nul t'=>
     simp only [Et.flat,←List.append_assoc] at e
     exact (kind h' (qbz e).2.symm (by rcases h.1 with rfl | rfl<;>decide)).elim
   | un k' x'=>
     simp only [Et.flat,←List.append_assoc] at e
     obtain ⟨e1,e2⟩:=qbz e
     have hk:k=k':=congrArg (·.1) e2
     obtain ⟨e3,e4⟩:=ih x' l l' h.2 h'.2 e1
     exact ⟨e3,by rw [hk,e4]⟩
   | bi k' x' y'=>
     simp only [Et.flat,←List.append_assoc] at e
     obtain ⟨e1,e2⟩:=qbz e
     have hk:k=k':=congrArg (·.1) e2
     have h1:=h.1
     have h2:=h'.1
     omega
 | bi k x y ihx ihy=>
   intro t' l l' h h' e
   cases t' with
   | nul t'=>
     simp only [Et.flat,←List.append_assoc] at e
     exact (kind h' (qbz e).2.symm (by have:=h.1.1;omega)).elim
   | un k' x'=>
     simp only [Et.flat,←List.append_assoc] at e
     obtain ⟨e1,e2⟩:=qbz e
     have hk:k=k':=congrArg (·.1) e2
     have h1:=h.1
     have h2:=h'.1
     omega
   | bi k' x' y'=>
     simp only [Et.flat,←List.append_assoc] at e
     obtain ⟨e1,e2⟩:=qbz e
     have hk:k=k':=congrArg (·.1) e2
     obtain ⟨e3,e4⟩:=ihy y' _ _ h.2.2 h'.2.2 e1
     obtain ⟨e5,e6⟩:=ihx x' l l' h.2.1 h'.2.1 e3
     exact ⟨e5,by rw [hk,e4,e6]⟩
def eflats:List Et→List Trm
 | []=>[]
 | t::ts=>eflats ts++t.flat
def ewfs:List Et→Prop
 | []=>True
 | t::ts=>t.wf∧ewfs ts
theorem qc5:∀ (e:List Trm) (ts:List Et) (n:Int),ewfs ts→eGo e (ts.length:Nat)=some n→∃ us:List Et,ewfs us∧(us.length:Int)=n∧eflats us=eflats ts++e
 | [],ts,n,h,hg=>⟨ts,h,Option.some.inj hg,by simp⟩
 | p::r,ts,n,h,hg=>by
   simp only [eGo] at hg
   split at hg
   ·cases hg
   ·rename_i hc
    simp only [Bool.or_eq_true,Bool.not_eq_true',decide_eq_true_eq,not_or,Bool.not_eq_false] at hc
    obtain ⟨hm,hd⟩:=hc
    have hop:=mayT_op hm
    have hle:=opE_le p.1
    have hk:opE p.1=0∨opE p.1=1∨opE p.1=2:=by omega
    have hz:opE p.1≠0→p=(p.1,0,[],[]):=fun h0=>by
     have hn:¬ p.1=1∧¬ p.1=2∧¬ p.1=3:=⟨fun h=>h0 (by rw [h];rfl),fun h=>h0 (by rw [h];rfl),fun h=>h0 (by rw [h];rfl)⟩
     unfold mayT at hm
     rw [if_neg hn.1,if_neg hn.2.1,if_neg hn.2.2] at hm
     simp only [Bool.and_eq_true,decide_eq_true_eq,beq_iff_eq] at hm
     obtain ⟨a,b,c,d⟩:=p
     have h1:b=0:=hm.1.1.2
     have h2:c=[]:=hm.1.2
     have h3:d=[]:=hm.2
     rw [h1,h2,h3]
    rcases hk with h0 | h1 | h2
    ·have ht:nulT p:=⟨hm,by unfold opE at h0;(repeat' split at h0)<;>omega⟩
     rw [h0] at hg
     obtain ⟨us,u1,u2,u3⟩:=qc5 r (.nul p::ts) n ⟨ht,h⟩ (by rw [←hg];congr 1<;>simp)
     exact ⟨us,u1,u2,by rw [u3];simp [eflats,Et.flat]⟩
    ·cases ts with
     | nil=>simp at hd;omega
     | cons x ts=>
       rw [h1] at hg
       have hw:(Et.un p.1 x).wf:=⟨by unfold opE at h1;(repeat' split at h1)<;>omega,h.1⟩
       obtain ⟨us,u1,u2,u3⟩:=qc5 r (.un p.1 x::ts) n ⟨hw,h.2⟩ (by rw [←hg];congr 1<;>simp)
       refine ⟨us,u1,u2,?_⟩
       rw [u3]
       have:=hz (by omega)
       simp only [eflats,Et.flat]
       rw [←this]
       simp
    ·cases ts with
     | nil=>simp at hd;omega
     | cons y ts=>
       cases ts with
       | nil=>simp at hd;omega
       | cons x ts=>
         rw [h2] at hg
         have hw:(Et.bi p.1 x y).wf:=⟨by unfold opE at h2;(repeat' split at h2)<;>omega,h.2.1,h.1⟩
         obtain ⟨us,u1,u2,u3⟩:=qc5 r (.bi p.1 x y::ts) n ⟨hw,h.2.2⟩ (by rw [←hg];congr 1;simp;omega)
         refine ⟨us,u1,u2,?_⟩
         rw [u3]
         have:=hz (by omega)
         simp only [eflats,Et.flat]
         rw [←this]
         simp
theorem rightE_tree {e:List Trm} (h:rightE e=true):∃ t:Et,t.wf∧e=t.flat∧e.length≤30:=by
 unfold rightE fin30 at h
 cases hg:eGo e 0 with
 | none=>rw [hg] at h;cases h
 | some d=>
   rw [hg] at h
   simp only [Bool.and_eq_true,decide_eq_true_eq] at h
   obtain ⟨us,u1,u2,u3⟩:=qc5 e [] d trivial hg
   rw [h.1] at u2
   match us,u1,u2,u3 with
   | [t],u1,_,u3=>exact ⟨t,u1.1,by simpa [eflats] using u3.symm,h.2⟩
theorem qcp {t:Et} (h:t.wf) (hl:t.flat.length≤30):rightE t.flat=true:=(t.good h).right hl
def opW (k:Int):List UInt8:=if k=6 then [42] else if k=7 then [43] else if k=8 then [45] else if k=9 then [60] else if k=10 then [60,61] else if k=11 then [62] else if k=12 then [62,61] else if k=13 then [61,61] else if k=14 then [33,61] else if k=15 then [38,38] else [124,124]
def unW (k:Int):List UInt8:=if k=4 then [33] else [45]
theorem qed {k:Int} (h:6≤k∧k≤16):k=6∨k=7∨k=8∨k=9∨k=10∨k=11∨k=12∨k=13∨k=14∨k=15∨k=16:=by omega
def lfO (n:Nat):Nat:=if n=3 then 4 else n
inductive De where
 | nul (t:Trm) (w:List UInt8)
 | un (k:Int) (d:De)
 | bi (k:Int) (a b:De)
 | bra (d:De)
def De.tree:De→Et
 | .nul t _=>.nul t
 | .un k d=>.un k d.tree
 | .bi k a b=>.bi k a.tree b.tree
 | .bra d=>d.tree
def De.lv:De→Nat
 | .nul _ _=>7
 | .un _ _=>6
 | .bi k _ _=>lvO k
 | .bra _=>7
def De.ok:De→Prop
 | .nul t _=>nulT t
 | .un k d=>(k=4∨k=5)∧6≤d.lv∧d.ok
 | .bi k a b=>(6≤k∧k≤16)∧lfO (lvO k)≤a.lv∧lvO k+1≤b.lv∧a.ok∧b.ok
 | .bra d=>d.ok
def nulK (t:Trm) (w:List UInt8):List TokS:=if t.1=1 then [(1,w,t.2.1)] else if t.1=2 then [(2,t.2.2.1,0)] else [(2,t.2.2.1,0),(4,[64],0),(2,t.2.2.2,0)]
def De.toks:De→List TokS
 | .nul t w=>nulK t w
 | .un k d=>(4,unW k,0)::d.toks
 | .bi k a b=>a.toks++((4,opW k,0)::b.toks)
 | .bra d=>(4,[40],0)::(d.toks++[(4,[41],0)])
def PreT:List TokS→List Tok→Nat→Prop
 | [],_,_=>True
 | t::ts,l,a=>(a<l.length∧strip (tkD l a)=t)∧PreT ts l (a+1)
theorem PreT.app:∀ (s t:List TokS) (l:List Tok) (a:Nat),PreT (s++t) l a→PreT s l a∧PreT t l (a+s.length)
 | [],t,l,a,h=>⟨trivial,h⟩
 | x::s,t,l,a,h=>by
   obtain ⟨h1,h2⟩:=PreT.app s t l (a+1) h.2
   refine ⟨⟨h.1,h1⟩,?_⟩
   rw [List.length_cons,show a+(s.length+1)=a+1+s.length by omega]
   exact h2
section
variable {l:List Tok}
end
theorem wordLen {w:List UInt8} (h:isWordP w=true):w.length≤8:=by
 cases w with
 | nil=>simp
 | cons b r=>
   simp only [isWordP,Bool.and_eq_true,decide_eq_true_eq] at h
   simpa using h.2
theorem mayLen {t:Trm} (h:mayT t=true):t.2.2.1.length≤8∧t.2.2.2.length≤8:=by
 unfold mayT at h
 split at h
 ·simp only [Bool.and_eq_true,beq_iff_eq] at h
  rw [h.1.2,h.2];simp
 ·split at h
  ·simp only [Bool.and_eq_true,beq_iff_eq] at h
   rw [h.2];exact ⟨wordLen h.1.2,by simp⟩
  ·split at h
   ·simp only [Bool.and_eq_true] at h
    exact ⟨wordLen h.1.2,wordLen h.2⟩
   ·simp only [Bool.and_eq_true,beq_iff_eq] at h
    rw [h.1.2,h.2];simp
def dgT (n:Int):List UInt8:=(itoaF n).getD []
theorem itoa_is {n:Int} (h:0≤n∧n≤999):itoaF n=some (dgT n):=by
 unfold dgT itoaF
 rw [decide_eq_true h.1,decide_eq_true (show n<1000 by omega)]
 rfl
theorem dgT_len (n:Int):(dgT n).length≤3:=by
 unfold dgT itoaF
 cases decide (0≤n) && decide (n<1000) with
 | false=>exact Nat.zero_le _
 | true=>
   cases decide (n<10) with
   | true=>exact (show 1≤3 by decide)
   | false=>
     cases decide (n<100) with
     | true=>exact (show 2≤3 by decide)
     | false=>exact (show 3≤3 by decide)
def leafW (t:Trm):List UInt8:=if t.1=1 then dgT t.2.1 else if t.1=2 then t.2.2.1 else t.2.2.1++[64]++t.2.2.2
def brW (b:Bool) (s:List UInt8):List UInt8:=if b then [40]++s++[41] else s
def Et.prx:Et→List UInt8
 | .nul t=>leafW t
 | .un k x=>unW k++brW (decide (x.lv<6)) x.prx
 | .bi k x y=>brW (decide (x.lv<lfO (lvO k))) x.prx++opW k++brW (decide (y.lv<lvO k+1)) y.prx
theorem opW_len (k:Int):(opW k).length≤2:=by unfold opW;(repeat' split)<;>decide
theorem unW_len (k:Int):(unW k).length=1:=by unfold unW;split<;>rfl
theorem qa3 (b:Bool) (s:List UInt8):(brW b s).length≤s.length+2:=by cases b<;>simp [brW]
theorem leafW_len {t:Trm} (h:mayT t=true):(leafW t).length≤17:=by
 have h8:=mayLen h
 have h3:=dgT_len t.2.1
 unfold leafW
 (repeat' split)
 ·omega
 ·omega
 ·simp;omega
theorem Et.prx_len:∀ (t:Et),t.wf→t.prx.length≤20*t.flat.length
 | .nul t,h=>by have:=leafW_len h.1;simp only [Et.prx,Et.flat,List.length_cons,List.length_nil];omega
 | .un k x,h=>by
   have h1:=x.prx_len h.2
   have h2:=qa3 (decide (x.lv<6)) x.prx
   have h3:=unW_len k
   simp only [Et.prx,Et.flat,List.length_append,List.length_cons,List.length_nil]
   omega
 | .bi k x y,h=>by
   have h1:=x.prx_len h.2.1
   have h1':=y.prx_len h.2.2
   have h2:=qa3 (decide (x.lv<lfO (lvO k))) x.prx
   have h2':=qa3 (decide (y.lv<lvO k+1)) y.prx
   have h3:=opW_len k
   simp only [Et.prx,Et.flat,List.length_append,List.length_cons,List.length_nil]
   omega
theorem brk_prog (s:List UInt8) (n m:Int) (hs:s.length≤1000000):M103 s n m=some (brW (decide (n<m)) s):=by
 show T103 Ops.std s n m some=_
 unfold T103
 simp only [qah,qan,qaa]
 by_cases h:n<m
 ·rw [if_pos h,if_pos (by omega),if_pos (by simp;omega),decide_eq_true h];rfl
 ·rw [if_neg h,decide_eq_false h];rfl
theorem both_tab {k:Int} (h:6≤k∧k≤16) (a b:List UInt8) (la lb:Int):M104 k a la b lb=ob (M103 a la ((lfO (lvO k):Nat)-1)) fun y2=>cond (decide ((y2.length+(opW k).length)*1≤140737488355328)) (ob (M103 b lb (lvO k:Nat)) fun y3=>cond (decide (((y2++opW k).length+y3.length)*1≤140737488355328)) (some (y2++opW k++y3,((lvO k:Nat):Int)-1)) none) none:=by
 rcases qed h with rfl | rfl | rfl | rfl | rfl | rfl | rfl | rfl | rfl | rfl | rfl
 all_goals kernel_rfl
theorem both_prog {k:Int} (h:6≤k∧k≤16) (a b:List UInt8) (la lb:Int) (ha:a.length≤1000000) (hb:b.length≤1000000):M104 k a la b lb=some (brW (decide (la<(lfO (lvO k):Nat)-1)) a++opW k++brW (decide (lb<(lvO k:Nat))) b,((lvO k:Nat):Int)-1):=by
 have h1:=qa3 (decide (la<(lfO (lvO k):Nat)-1)) a
 have h2:=qa3 (decide (lb<(lvO k:Nat))) b
 have h3:=opW_len k
 rw [both_tab h,brk_prog a _ _ ha,ob_s,brk_prog b _ _ hb,ob_s,decide_eq_true (by omega),decide_eq_true (by simp only [List.length_append];omega)]
 rfl
theorem may_num' {t:Trm} (h:mayT t=true) (h1:t.1=1):0≤t.2.1∧t.2.1≤999:=by
 unfold mayT at h
 rw [if_pos h1] at h
 simp only [Bool.and_eq_true,decide_eq_true_eq] at h
 exact ⟨h.1.1.1,h.1.1.2⟩
abbrev Sdt:=List UInt8×Int
noncomputable abbrev prP (e:List Trm):=R70 M26 M59 M102 M103 M104 e
section
variable {e:List Trm}
theorem prP_nul (i m:Nat) (st:List Sdt) (t:Trm) (hi:i<e.length) (hx:e.getD i (Ty.dflt ty63)=t) (ht:nulT t) (hl:e.length≤30) (hs:st.length≤100):prP e (m+1) (.l0 (e.length:Nat) i st)=prP e m (.l0 (e.length:Nat) ((i+1:Nat):Int) (st++[(leafW t,6)])):=by
 have hop:=ht.op
 obtain ⟨hm,hk⟩:=ht
 have h8:=mayLen hm
 have hU:prP e (m+1) (.l0 (e.length:Nat) i st)=T70 Ops.std M26 M59 M102 M103 M104 e (prP e m) some (some (.l0 (e.length:Nat) i st)):=rfl
 rw [hU]
 unfold T70
 have hw:IntKind.wrap IntKind.i64 ((st.length:Int)-0)=((st.length:Nat):Int):=by rw [wrap64 (by omega) (by omega)];omega
 simp only [qah,qaj,qal,qan,qaa,qaf,hx,mt,List.length_cons,List.length_nil,qc1,ob_s,hop,hw,List.take_length,show IntKind.wrap IntKind.i64 ((i:Int)+1)=((i+1:Nat):Int) from qag (by omega)]
 rw [if_pos (by omega),if_pos (by omega)]
 have hin:(0:Int)≤((st.length:Nat):Int)∧((st.length:Nat):Int)<((st.length+1:Nat):Int):=by omega
 rcases hk with h1 | h2 | h3
 ·have hn:M102 t.2.1=some (dgT t.2.1):=itoa_is (may_num' hm h1)
  rw [if_pos h1,hn,ob_s,if_pos hin,if_pos (by omega)]
  unfold leafW
  rw [if_pos h1]
 ·rw [if_neg (by omega),if_pos h2,if_pos hin,if_pos (by omega)]
  unfold leafW
  rw [if_neg (by omega),if_pos h2]
 ·rw [if_neg (by omega),if_neg (by omega),if_pos h3,if_pos (by omega),if_pos (by simp;omega),if_pos hin,if_pos (by omega)]
  unfold leafW
  rw [if_neg (by omega),if_neg (by omega)]
theorem prP_un (i m:Nat) (st:List Sdt) (k:Int) (s:List UInt8) (n:Int) (hi:i<e.length) (hx:e.getD i (Ty.dflt ty63)=(k,0,[],[])) (hk:k=4∨k=5) (hl:e.length≤30) (hs:st.length≤100) (hs2:s.length≤1000):prP e (m+1) (.l0 (e.length:Nat) i (st++[(s,n)]))=prP e m (.l0 (e.length:Nat) ((i+1:Nat):Int) (st++[(unW k++brW (decide (n<5)) s,5)])):=by
 have hop:=opE_un hk
 have hb:=qa3 (decide (n<5)) s
 have hU:prP e (m+1) (.l0 (e.length:Nat) i (st++[(s,n)]))=T70 Ops.std M26 M59 M102 M103 M104 e (prP e m) some (some (.l0 (e.length:Nat) i (st++[(s,n)]))):=rfl
 rw [hU]
 unfold T70
 have hlen:(st++[(s,n)]).length=st.length+1:=by simp
 have hw:IntKind.wrap IntKind.i64 (((st++[(s,n)]).length:Int)-1)=((st.length:Nat):Int):=by rw [hlen,wrap64 (by omega) (by omega)];omega
 have hg:(st++[(s,n)]).getD st.length (Ty.dflt ty156)=(s,n):=qat st (s,n) [] _
 have htk:(st++[(s,n)]).take st.length=st:=List.take_left
 simp only [qah,qaj,qal,qan,qaa,qaf,hx,mt,List.length_cons,List.length_nil,qc1,ob_s,hop,hw,hg,htk,brk_prog s n 5 (by omega),show IntKind.wrap IntKind.i64 ((i:Int)+1)=((i+1:Nat):Int) from qag (by omega)]
 rw [if_pos (by omega),if_pos (by omega),if_neg (by omega),if_neg (by omega),if_neg (by omega)]
 have hin:(0:Int)≤((st.length:Nat):Int)∧((st.length:Nat):Int)<(((st++[(s,n)]).length:Nat):Int):=by omega
 have hin2:(0:Int)≤((st.length:Nat):Int)∧((st.length:Nat):Int)<(((st++[(s,n)]).length+1:Nat):Int):=by omega
 rcases hk with rfl | rfl
 ·rw [if_pos rfl,if_pos hin,if_pos (by omega),if_pos hin2,if_pos (by omega)]
  rfl
 ·rw [if_neg (by decide),if_pos rfl,if_pos hin,if_pos (by omega),if_pos hin2,if_pos (by omega)]
  rfl
theorem prP_bi (i m:Nat) (st:List Sdt) (k:Int) (a b:List UInt8) (la lb:Int) (hi:i<e.length) (hx:e.getD i (Ty.dflt ty63)=(k,0,[],[])) (hk:6≤k∧k≤16) (hl:e.length≤30) (hs:st.length≤100) (ha:a.length≤1000) (hb:b.length≤1000):prP e (m+1) (.l0 (e.length:Nat) i (st++[(a,la),(b,lb)]))=prP e m (.l0 (e.length:Nat) ((i+1:Nat):Int) (st++[(brW (decide (la<(lfO (lvO k):Nat)-1)) a++opW k++brW (decide (lb<(lvO k:Nat))) b,((lvO k:Nat):Int)-1)])):=by
 have hop:=opE_bi hk
 have hU:prP e (m+1) (.l0 (e.length:Nat) i (st++[(a,la),(b,lb)]))=T70 Ops.std M26 M59 M102 M103 M104 e (prP e m) some (some (.l0 (e.length:Nat) i (st++[(a,la),(b,lb)]))):=rfl
 rw [hU]
 unfold T70
 have hlen:(st++[(a,la),(b,lb)]).length=st.length+2:=by simp
 have hw:IntKind.wrap IntKind.i64 (((st++[(a,la),(b,lb)]).length:Int)-2)=((st.length:Nat):Int):=by rw [hlen,wrap64 (by omega) (by omega)];omega
 have hw1:IntKind.wrap IntKind.i64 (((st.length:Nat):Int)+1)=((st.length+1:Nat):Int):=qag (by omega)
 have hg:(st++[(a,la),(b,lb)]).getD st.length (Ty.dflt ty156)=(a,la):=qat st (a,la) [(b,lb)] _
 have hg1:(st++[(a,la),(b,lb)]).getD (st.length+1) (Ty.dflt ty156)=(b,lb):=by
  simp
 have htk:(st++[(a,la),(b,lb)]).take st.length=st:=List.take_left
 simp only [qah,qaj,qal,qan,qaa,qaf,hx,mt,List.length_cons,List.length_nil,qc1,ob_s,hop,hw,hw1,hg,hg1,htk,both_prog hk a b la lb (by omega) (by omega),show IntKind.wrap IntKind.i64 ((i:Int)+1)=((i+1:Nat):Int) from qag (by omega)]
 rw [if_pos (by omega),if_pos (by omega),if_neg (by omega),if_neg (by omega),if_neg (by omega),if_neg (by omega),if_neg (by omega),if_pos (by omega),if_pos (by omega),if_pos (by omega),if_pos (by omega)]
theorem qee (hl:e.length≤30):∀ (t:Et),t.wf→∀ (pre rest:List Trm) (st:List Sdt) (m:Nat),e=pre++(t.flat++rest)→st.length+t.flat.length≤40→
  prP e (m+t.flat.length) (.l0 (e.length:Nat) (pre.length:Nat) st)=prP e m (.l0 (e.length:Nat) ((pre.length+t.flat.length:Nat):Int) (st++[(t.prx,((t.lv:Nat):Int)-1)]))
 | .nul t,h,pre,rest,st,m,he,hs=>by
   have hx:e.getD pre.length (Ty.dflt ty63)=t:=by rw [he];exact qat pre t rest _
   exact prP_nul pre.length m st t (by rw [he];simp [Et.flat]) hx h hl (by omega)
 | .un k x,h,pre,rest,st,m,he,hs=>by
   have hf:(Et.un k x).flat.length=x.flat.length+1:=by simp [Et.flat]
   have he1:e=pre++(x.flat++((k,0,[],[])::rest)):=by rw [he];simp [Et.flat]
   have ih:=qee hl x h.2 pre _ st (m+1) he1 (by omega)
   have hel:e.length=pre.length+(x.flat.length+(rest.length+1)):=by rw [he1];simp
   have hx:e.getD (pre.length+x.flat.length) (Ty.dflt ty63)=(k,0,[],[]):=by
    rw [he1,←List.append_assoc,←List.length_append];exact qat _ _ rest _
   have hlen:=x.prx_len h.2
   rw [hf,show m+(x.flat.length+1)=m+1+x.flat.length by omega,ih,prP_un _ m st k x.prx _ (by omega) hx h.1 hl (by omega) (by omega)]
   have hd:decide (((x.lv:Nat):Int)-1<5)=decide (x.lv<6):=by congr 1;exact propext ⟨fun h=>by omega,fun h=>by omega⟩
   rw [hd]
   rfl
 | .bi k x y,h,pre,rest,st,m,he,hs=>by
   have hf:(Et.bi k x y).flat.length=x.flat.length+y.flat.length+1:=by simp [Et.flat];omega
   have he1:e=pre++(x.flat++(y.flat++((k,0,[],[])::rest))):=by rw [he];simp [Et.flat]
   have hel:e.length=pre.length+(x.flat.length+(y.flat.length+(rest.length+1))):=by rw [he1];simp
   have ih:=qee hl x h.2.1 pre _ st (m+1+y.flat.length) he1 (by omega)
   have ih2:=qee hl y h.2.2 (pre++x.flat) ((k,0,[],[])::rest) (st++[(x.prx,((x.lv:Nat):Int)-1)]) (m+1) (by rw [he1];simp) (by simp;omega)
   rw [List.length_append] at ih2
   have hx:e.getD (pre.length+x.flat.length+y.flat.length) (Ty.dflt ty63)=(k,0,[],[]):=by
    rw [he1,←List.append_assoc,←List.append_assoc,←List.length_append,←List.length_append];exact qat _ _ rest _
   have hlen:=x.prx_len h.2.1
   have hlen2:=y.prx_len h.2.2
   have hst:st++[(x.prx,((x.lv:Nat):Int)-1)]++[(y.prx,((y.lv:Nat):Int)-1)]=st++[(x.prx,((x.lv:Nat):Int)-1),(y.prx,((y.lv:Nat):Int)-1)]:=by simp
   rw [hf,show m+(x.flat.length+y.flat.length+1)=m+1+y.flat.length+x.flat.length by omega,ih,ih2,hst,prP_bi _ m st k x.prx y.prx _ _ (by omega) hx h.1 hl (by omega) (by omega) (by omega)]
   have hd:decide (((x.lv:Nat):Int)-1<(lfO (lvO k):Nat)-1)=decide (x.lv<lfO (lvO k)):=by congr 1;exact propext ⟨fun h=>by omega,fun h=>by omega⟩
   have hd2:decide (((y.lv:Nat):Int)-1<(lvO k:Nat))=decide (y.lv<lvO k+1):=by congr 1;exact propext ⟨fun h=>by omega,fun h=>by omega⟩
   rw [hd,hd2,show pre.length+x.flat.length+y.flat.length+1=pre.length+(x.flat.length+y.flat.length+1) by omega]
   rfl
end
theorem print_prog {t:Et} (h:t.wf) (hl:t.flat.length≤30):M70 t.flat=some t.prx:=by
 show T70 Ops.std M26 M59 M102 M103 M104 t.flat (prP t.flat 1000000) some none=_
 unfold T70
 rw [qbx t.flat (by omega),ob_s,qcp h hl]
 simp only [Bool.not_true,cond_false]
 have:=qee (e:=t.flat) hl t h [] [] [] (1000000-t.flat.length) (by simp) (by simp;omega)
 rw [show 1000000-t.flat.length+t.flat.length=1000000 by omega] at this
 refine Eq.trans this ?_
 obtain ⟨m,hm⟩:∃ m,1000000-t.flat.length=m+1:=⟨1000000-t.flat.length-1,by omega⟩
 rw [hm]
 have hU:∀ (i:Int) (st:List Sdt),prP t.flat (m+1) (.l0 (t.flat.length:Nat) i st)=T70 Ops.std M26 M59 M102 M103 M104 t.flat (prP t.flat m) some (some (.l0 (t.flat.length:Nat) i st)):=fun _ _=>rfl
 rw [hU]
 unfold T70
 simp only [qah,qaj,qaa]
 rw [if_neg (by simp),if_pos (by simp)]
 rfl
def hdOK (s:List UInt8):Prop:=∃ (d:UInt8) (q:List UInt8),s=d::q∧d≠61∧d≠62
theorem hdOK.app {s:List UInt8} (h:hdOK s) (r:List UInt8):hdOK (s++r):=by
 obtain ⟨d,q,rfl,h⟩:=h
 exact ⟨d,q++r,rfl,h⟩
theorem noWord.op {k:Int} (hk:6≤k∧k≤16) (r:List UInt8):noWord (opW k++r):=by
 rcases qed hk with rfl | rfl | rfl | rfl | rfl | rfl | rfl | rfl | rfl | rfl | rfl<;>exact noWord.cons rfl
inductive Df where
 | con (b:Bool)
 | atm (d:De)
 | un (k:Int) (x:Df)
 | bi (k:Int) (x y:Df)
 | bra (x:Df)
def conK (b:Bool):Int:=if b then 1 else 2
def Df.tree:Df→Fm Trm
 | .con b=>.nul (conK b,[])
 | .atm d=>.nul (3,d.tree.flat)
 | .un k x=>.un (k,[]) x.tree
 | .bi k x y=>.bi (k,[]) x.tree y.tree
 | .bra x=>x.tree
def Df.lv:Df→Nat
 | .un _ _=>5
 | .bi k _ _=>lvK k
 | _=>6
def lfK (n:Nat):Nat:=if n=1∨n=4 then n+1 else n
def rtK (n:Nat):Nat:=if n=1∨n=4 then n else n+1
def Df.ok:Df→Prop
 | .con _=>True
 | .atm d=>d.ok∧d.tree.flat.length≤30
 | .un k x=>unaK k∧5≤x.lv∧x.ok
 | .bi k x y=>binK k∧lfK (lvK k)≤x.lv∧rtK (lvK k)≤y.lv∧x.ok∧y.ok
 | .bra x=>x.ok
def Df.toks:Df→List TokS
 | .con b=>[(2,conW b,0)]
 | .atm d=>(4,[91],0)::(d.toks++[(4,[93],0)])
 | .un k x=>unaT k::x.toks
 | .bi k x y=>x.toks++(binT k::y.toks)
 | .bra x=>(4,[40],0)::(x.toks++[(4,[41],0)])
theorem lvK_le {k:Int}:1≤lvK k∧lvK k≤4:=by unfold lvK;(repeat' split)<;>omega
section
variable {l:List Tok}
def noS (l:List Tok) (b n:Nat):Prop:=∀ m,n≤m→m≤4→sgF m (txF l b)=0
theorem noS.le {b n m:Nat} (h:noS l b n) (hm:n≤m):noS l b m:=fun k h1 h2=>h k (by omega) h2
end
noncomputable def exW (e:List Trm):List UInt8:=(M70 e).getD []
theorem exW_is {e:List Trm} (h:rightE e=true):∃ t:Et,t.wf∧e=t.flat∧t.flat.length≤30∧exW e=t.prx∧M70 e=some (exW e):=by
 obtain ⟨t,t1,rfl,t3⟩:=rightE_tree h
 have:=print_prog t1 t3
 have e1:exW t.flat=t.prx:=by unfold exW;rw [this];rfl
 exact ⟨t,t1,rfl,t3,e1,by rw [this,e1]⟩
def Fm.lvF:Fm Trm→Nat
 | .nul _=>6
 | .un _ _=>5
 | .bi p _ _=>lvK p.1
noncomputable def nulW (p:Prt):List UInt8:=if p.1=1 then [116,114,117,101] else if p.1=2 then [102,97,108,115,101] else [91]++exW p.2++[93]
noncomputable def Fm.prf:Fm Trm→List UInt8
 | .nul p=>nulW p
 | .un p x=>unaW p.1++brW (decide (x.lvF<5)) x.prf
 | .bi p x y=>brW (decide (x.lvF<lfK (lvK p.1))) x.prf++binW p.1++brW (decide (y.lvF<rtK (lvK p.1))) y.prf
theorem unaW_len (k:Int):(unaW k).length≤2:=by unfold unaW;(repeat' split)<;>decide
theorem binW_len (k:Int):(binW k).length≤4:=by unfold binW;(repeat' split)<;>decide
theorem opn_un {k:Int} (h:opn k=1):unaK k:=by
 unfold opn at h
 unfold unaK
 (repeat' split at h)<;>omega
theorem opn_bi {k:Int} (h:opn k=2):binK k:=by
 unfold opn at h
 unfold binK
 (repeat' split at h)<;>omega
theorem opn_nul {k:Int} (h:opn k=0):k=1∨k=2∨k=3:=by
 unfold opn at h
 (repeat' split at h)<;>omega
theorem nulW_len {p:Prt} (h:opn p.1=0) (h3:p.1=3→rightE p.2=true):(nulW p).length≤700:=by
 unfold nulW
 rcases opn_nul h with h1 | h1 | h1
 ·rw [if_pos h1];decide
 ·rw [if_neg (by omega),if_pos h1];decide
 ·rw [if_neg (by omega),if_neg (by omega)]
  obtain ⟨t,t1,t2,t3,t4,_⟩:=exW_is (h3 h1)
  have:=t.prx_len t1
  rw [t4]
  simp;omega
theorem Fm.prf_len:∀ t:Fm Trm,t.wf rightE→t.prf.length≤700*t.size
 | .nul p,h=>by
   have:=nulW_len h.1 h.2.1
   simp only [Fm.prf,Fm.size];omega
 | .un p x,h=>by
   have:=Fm.prf_len x h.2.2
   have h1:=unaW_len p.1
   have h2:=qa3 (decide (x.lvF<5)) x.prf
   simp only [Fm.prf,Fm.size,List.length_append];omega
 | .bi p x y,h=>by
   have:=Fm.prf_len x h.2.2.1
   have:=Fm.prf_len y h.2.2.2
   have h1:=binW_len p.1
   have h2:=qa3 (decide (x.lvF<lfK (lvK p.1))) x.prf
   have h3:=qa3 (decide (y.lvF<rtK (lvK p.1))) y.prf
   simp only [Fm.prf,Fm.size,List.length_append];omega
theorem qe6 (s:List UInt8) (n m:Int) (hs:s.length≤1000000):M72 s n m=some (brW (decide (n<m)) s):=by
 show T72 Ops.std s n m some=_
 unfold T72
 simp only [qah,qan,qaa,List.length_append,List.length_cons,List.length_nil]
 by_cases h:n<m
 ·rw [if_pos h,if_pos (by omega),if_pos (by omega),decide_eq_true h];rfl
 ·rw [if_neg h,decide_eq_false h];rfl
theorem preW_prog {k:Int} (h:unaK k):M71 k=some (unaW k):=by rcases h with rfl | rfl | rfl | rfl<;>rfl
theorem infix_prog {k:Int} (h:binK k):M73 k=some (binW k,((lvK k:Nat):Int)-1,decide (lvK k=1∨lvK k=4)):=by rcases h with rfl | rfl | rfl | rfl | rfl<;>rfl
abbrev Sfd:=List UInt8×Int
theorem told_nul {p:Prt} (h:opn p.1=0) (h3:p.1=3→rightE p.2=true):M37 p.1 p.2 []=some (nulW p,5):=by
 show T37 Ops.std M70 M71 M72 M73 p.1 p.2 [] some=_
 unfold T37 nulW
 simp only [qal,qan,qaa]
 rcases opn_nul h with h1 | h1 | h1
 ·rw [if_pos h1,if_pos h1]
 ·rw [if_neg (by omega),if_pos h1,if_neg (by omega),if_pos h1]
 ·obtain ⟨t,t1,t2,t3,t4,t5⟩:=exW_is (h3 h1)
  have:=t.prx_len t1
  rw [←t4] at this
  rw [if_neg (by omega),if_neg (by omega),if_pos h1,if_neg (by omega),if_neg (by omega),t5,ob_s,if_pos (by omega),if_pos (by simp;omega)]
theorem told_un {k:Int} (h:unaK k) (e:List Trm) (s:List UInt8) (n:Int) (hs:s.length≤100000):M37 k e [(s,n)]=some (unaW k++brW (decide (n<4)) s,4):=by
 show T37 Ops.std M70 M71 M72 M73 k e [(s,n)] some=_
 unfold T37
 have hk:¬ k=1∧¬ k=2∧¬ k=3:=by rcases h with rfl | rfl | rfl | rfl<;>decide
 have h1:=unaW_len k
 have h2:=qa3 (decide (n<4)) s
 have hb:=qe6 s n 4 (by omega)
 simp only [qal,qan,qaj,qaa,preW_prog h,ob_s]
 rw [if_neg hk.1,if_neg hk.2.1,if_neg hk.2.2,if_pos (by simp),if_pos (by simp)]
 show ob (M72 s n 4) _=_
 rw [hb,ob_s,if_pos (by omega)]
theorem told_bi {k:Int} (h:binK k) (e:List Trm) (a b:List UInt8) (la lb:Int) (ha:a.length≤100000) (hb:b.length≤100000):M37 k e [(a,la),(b,lb)]=some (brW (decide (la<(lfK (lvK k):Nat)-1)) a++binW k++brW (decide (lb<(rtK (lvK k):Nat)-1)) b,((lvK k:Nat):Int)-1):=by
 show T37 Ops.std M70 M71 M72 M73 k e [(a,la),(b,lb)] some=_
 unfold T37
 have hk:¬ k=1∧¬ k=2∧¬ k=3:=by rcases h with rfl | rfl | rfl | rfl | rfl<;>decide
 have h1:=binW_len k
 have hlv:=lvK_le (k:=k)
 have h2:=qa3 (decide (la<(lfK (lvK k):Nat)-1)) a
 have h3:=qa3 (decide (lb<(rtK (lvK k):Nat)-1)) b
 have hw:IntKind.wrap IntKind.i64 (((lvK k:Nat):Int)-1+1)=((lvK k:Nat):Int):=by rw [wrap64 (by omega) (by omega)];omega
 have b1:∀ m,M72 a la m=some (brW (decide (la<m)) a):=fun m=>qe6 a la m (by omega)
 have b2:∀ m,M72 b lb m=some (brW (decide (lb<m)) b):=fun m=>qe6 b lb m (by omega)
 simp only [qal,qan,qaj,qaa,infix_prog h,ob_s,hw]
 rw [if_neg hk.1,if_neg hk.2.1,if_neg hk.2.2,if_neg (by simp)]
 by_cases hr:lvK k=1∨lvK k=4
 ·have e1:((lfK (lvK k):Nat):Int)-1=((lvK k:Nat):Int):=by unfold lfK;rw [if_pos hr];omega
  have e2:((rtK (lvK k):Nat):Int)-1=((lvK k:Nat):Int)-1:=by unfold rtK;rw [if_pos hr]
  rw [e1] at h2 ⊢
  rw [e2] at h3 ⊢
  rw [if_pos hr,if_pos (by simp),if_pos (by simp)]
  show ob (M72 a la _) _=_
  rw [b1,ob_s,if_pos (by omega)]
  show ob (M72 b lb _) _=_
  rw [b2,ob_s,if_pos (by simp only [List.length_append];omega)]
 ·have e1:((lfK (lvK k):Nat):Int)-1=((lvK k:Nat):Int)-1:=by unfold lfK;rw [if_neg hr]
  have e2:((rtK (lvK k):Nat):Int)-1=((lvK k:Nat):Int):=by unfold rtK;rw [if_neg hr];omega
  rw [e1] at h2 ⊢
  rw [e2] at h3 ⊢
  rw [if_neg hr,if_pos (by simp),if_pos (by simp)]
  show ob (M72 a la _) _=_
  rw [b1,ob_s,if_pos (by omega)]
  show ob (M72 b lb _) _=_
  rw [b2,ob_s,if_pos (by simp only [List.length_append];omega)]
theorem clone_said (xs:List Sfd) (h:xs.length<900000):M38 xs=some xs:=by
 unfold M38 cloneF fits
 rw [qaa,if_pos (by omega)]
noncomputable abbrev pfR (f:List Prt):=R15 M9 M25 M38 M37 f
section
variable {f:List Prt} (hl:f.length≤60)
include hl
theorem pf_step (i m:Nat) (st kids:List Sfd) (p:Prt) (w:List UInt8) (n:Int) (hi:i<f.length) (hx:f.getD i (Ty.dflt ty61)=p) (hop:opn p.1=((kids.length:Nat):Int)) (hk:kids.length≤2) (hs:st.length≤100) (ht:M37 p.1 p.2 kids=some (w,n)):pfR f (m+1) (.l0 (f.length:Nat) i (st++kids))=pfR f m (.l0 (f.length:Nat) ((i+1:Nat):Int) (st++[(w,n)])):=by
 have hU:pfR f (m+1) (.l0 (f.length:Nat) i (st++kids))=T15 Ops.std M9 M25 M38 M37 f (pfR f m) some (some (.l0 (f.length:Nat) i (st++kids))):=rfl
 rw [hU]
 unfold T15
 have hlen:(st++kids).length=st.length+kids.length:=by simp
 have hw:IntKind.wrap IntKind.i64 (((st++kids).length:Int)-((kids.length:Nat):Int))=((st.length:Nat):Int):=by rw [hlen,wrap64 (by omega) (by omega)];omega
 have htk:(st++kids).take st.length=st:=List.take_left
 have hdr:(st++kids).drop st.length=kids:=List.drop_left
 simp only [qah,qaj,qal,qan,qaa,qaf,hx,mt,List.length_cons,List.length_nil,opn_prog,ob_s,hop,hw,htk,List.take_length,hdr,clone_said kids (by omega),ht,show IntKind.wrap IntKind.i64 ((i:Int)+1)=((i+1:Nat):Int) from qag (by omega)]
 rw [if_pos (by omega),if_pos (by omega),if_pos (by omega),if_pos (by omega),if_pos (by omega)]
theorem pf_tree:∀ (t:Fm Trm),t.wf rightE→t.size≤60→∀ (pre rest:List Prt) (st:List Sfd) (m:Nat),f=pre++(t.flat++rest)→st.length+t.size≤70→
  pfR f (m+t.size) (.l0 (f.length:Nat) (pre.length:Nat) st)=pfR f m (.l0 (f.length:Nat) ((pre.length+t.size:Nat):Int) (st++[(t.prf,((t.lvF:Nat):Int)-1)]))
 | .nul p,h,h60,pre,rest,st,m,he,hs=>by
   have hx:f.getD pre.length (Ty.dflt ty61)=p:=by rw [he];exact qat pre p rest _
   have:=pf_step hl pre.length m st [] p _ _ (by rw [he];simp [Fm.flat]) hx h.1 (by simp) (by omega) (told_nul h.1 h.2.1)
   rw [List.append_nil] at this
   exact this
 | .un p x,h,h60,pre,rest,st,m,he,hs=>by
   have hf:(Fm.un p x).size=x.size+1:=rfl
   have hxl:=x.flat_len
   have he1:f=pre++(x.flat++(p::rest)):=by rw [he];simp [Fm.flat]
   have ih:=pf_tree x h.2.2 (by omega) pre _ st (m+1) he1 (by omega)
   have hel:f.length=pre.length+(x.size+(rest.length+1)):=by rw [he1];simp [hxl]
   have hx:f.getD (pre.length+x.size) (Ty.dflt ty61)=p:=by
    rw [he1,←List.append_assoc,←hxl,←List.length_append];exact qat _ _ rest _
   have hlen:=x.prf_len h.2.2
   have hu:=opn_un h.1
   have ht:=told_un hu p.2 x.prf (((x.lvF:Nat):Int)-1) (by omega)
   have hst:=pf_step hl (pre.length+x.size) m st [(x.prf,((x.lvF:Nat):Int)-1)] p _ _ (by omega) hx (by rw [h.1];rfl) (by simp) (by omega) ht
   rw [hf,show m+(x.size+1)=m+1+x.size by omega,ih,hst]
   have hd:decide (((x.lvF:Nat):Int)-1<4)=decide (x.lvF<5):=by congr 1;exact propext ⟨fun h=>by omega,fun h=>by omega⟩
   rw [hd]
   rfl
 | .bi p x y,h,h60,pre,rest,st,m,he,hs=>by
   have hf:(Fm.bi p x y).size=x.size+y.size+1:=rfl
   have hxl:=x.flat_len
   have hyl:=y.flat_len
   have he1:f=pre++(x.flat++(y.flat++(p::rest))):=by rw [he];simp [Fm.flat]
   have hel:f.length=pre.length+(x.size+(y.size+(rest.length+1))):=by rw [he1];simp [hxl,hyl]
   have ih:=pf_tree x h.2.2.1 (by omega) pre _ st (m+1+y.size) he1 (by omega)
   have ih2:=pf_tree y h.2.2.2 (by omega) (pre++x.flat) (p::rest) (st++[(x.prf,((x.lvF:Nat):Int)-1)]) (m+1) (by rw [he1];simp) (by simp;omega)
   rw [List.length_append,hxl] at ih2
   have hx:f.getD (pre.length+x.size+y.size) (Ty.dflt ty61)=p:=by
    rw [he1,←List.append_assoc,←List.append_assoc,←hxl,←hyl,←List.length_append,←List.length_append];exact qat _ _ rest _
   have hlen:=x.prf_len h.2.2.1
   have hlen2:=y.prf_len h.2.2.2
   have hu:=opn_bi h.1
   have ht:=told_bi hu p.2 x.prf y.prf (((x.lvF:Nat):Int)-1) (((y.lvF:Nat):Int)-1) (by omega) (by omega)
   have hst:st++[(x.prf,((x.lvF:Nat):Int)-1)]++[(y.prf,((y.lvF:Nat):Int)-1)]=st++[(x.prf,((x.lvF:Nat):Int)-1),(y.prf,((y.lvF:Nat):Int)-1)]:=by simp
   have hstp:=pf_step hl (pre.length+x.size+y.size) m st [(x.prf,((x.lvF:Nat):Int)-1),(y.prf,((y.lvF:Nat):Int)-1)] p _ _ (by omega) hx (by rw [h.1];rfl) (by simp) (by omega) ht
   rw [hf,show m+(x.size+y.size+1)=m+1+y.size+x.size by omega,ih,ih2,hst,hstp]
   have hd:decide (((x.lvF:Nat):Int)-1<(lfK (lvK p.1):Nat)-1)=decide (x.lvF<lfK (lvK p.1)):=by congr 1;exact propext ⟨fun h=>by omega,fun h=>by omega⟩
   have hd2:decide (((y.lvF:Nat):Int)-1<(rtK (lvK p.1):Nat)-1)=decide (y.lvF<rtK (lvK p.1)):=by congr 1;exact propext ⟨fun h=>by omega,fun h=>by omega⟩
   rw [hd,hd2,show pre.length+x.size+y.size+1=pre.length+(x.size+y.size+1) by omega]
   rfl
end
theorem fright_prog {t:Fm Trm} (ht:t.wf rightE) (hs:∀ p∈t.flat,shortP p) (h60:t.size≤60):M9 t.flat=some true:=by
 have hl:=t.flat_len
 rw [qfp rightE t.flat (fun p hp=>qbx p.2 (by have:=(hs p hp).1;omega)) ⟨by omega,fun p hp=>by have:=(hs p hp).1;omega⟩,qe2 rightE ht h60]
theorem fprint_prog {t:Fm Trm} (ht:t.wf rightE) (hs:∀ p∈t.flat,shortP p) (h60:t.size≤60):M15 t.flat=some t.prf:=by
 show T15 Ops.std M9 M25 M38 M37 t.flat (pfR t.flat 1000000) some none=_
 unfold T15
 have hl:=t.flat_len
 rw [fright_prog ht hs h60,ob_s]
 simp only [Bool.not_true,cond_false]
 have:=pf_tree (f:=t.flat) (by omega) t ht h60 [] [] [] (1000000-t.size) (by simp) (by simp;omega)
 rw [show 1000000-t.size+t.size=1000000 by omega] at this
 refine Eq.trans this ?_
 obtain ⟨m,hm⟩:∃ m,1000000-t.size=m+1:=⟨1000000-t.size-1,by omega⟩
 rw [hm]
 have hU:∀ (i:Int) (st:List Sfd),pfR t.flat (m+1) (.l0 (t.flat.length:Nat) i st)=T15 Ops.std M9 M25 M38 M37 t.flat (pfR t.flat m) some (some (.l0 (t.flat.length:Nat) i st)):=fun _ _=>rfl
 rw [hU]
 unfold T15
 simp only [qah,qaj,qaa]
 rw [if_neg (by simp;omega),if_pos (by simp)]
 rfl
theorem decimal_all:(List.range 1000).all (fun n=>M75 (n:Int) == itoaF (n:Int))=true:=by kernel_rfl
theorem decimal_is {n:Int} (h:0≤n∧n≤999):M75 n=some (dgT n):=by
 obtain ⟨k,rfl⟩:∃ k:Nat,n=(k:Int):=⟨n.toNat,by omega⟩
 have:=List.all_eq_true.1 decimal_all k (List.mem_range.2 (by omega))
 rw [beq_iff_eq] at this
 rw [this,itoa_is h]
theorem tb_un {k:Int} (h:k=4∨k=5):List.getD (mt UInt8::mt UInt8::mt UInt8::mt UInt8::([33]:List UInt8)::([45]:List UInt8)::([42]:List UInt8)::([43]:List UInt8)::([45]:List UInt8)::([60]:List UInt8)::([60,61]:List UInt8)::([62]:List UInt8)::([62,61]:List UInt8)::([61,61]:List UInt8)::([33,61]:List UInt8)::([38,38]:List UInt8)::([124,124]:List UInt8)::mt (List UInt8)) k.toNat (mt UInt8)=unW k:=by
 rcases h with rfl | rfl<;>rfl
theorem tb_bi {k:Int} (h:6≤k∧k≤16):List.getD (mt UInt8::mt UInt8::mt UInt8::mt UInt8::([33]:List UInt8)::([45]:List UInt8)::([42]:List UInt8)::([43]:List UInt8)::([45]:List UInt8)::([60]:List UInt8)::([60,61]:List UInt8)::([62]:List UInt8)::([62,61]:List UInt8)::([61,61]:List UInt8)::([33,61]:List UInt8)::([38,38]:List UInt8)::([124,124]:List UInt8)::mt (List UInt8)) k.toNat (mt UInt8)=opW k:=by
 rcases qed h with rfl | rfl | rfl | rfl | rfl | rfl | rfl | rfl | rfl | rfl | rfl<;>rfl
theorem str_nul {t:Trm} (h:nulT t):M74 t.1=some 7:=by
 obtain ⟨_,h | h | h⟩:=h<;>rw [h]<;>rfl
theorem str_un {k:Int} (h:k=4∨k=5):M74 k=some 6:=by rcases h with rfl | rfl<;>rfl
theorem str_bi {k:Int} (h:6≤k∧k≤16):M74 k=some ((lvO k:Nat):Int):=by
 rcases qed h with rfl | rfl | rfl | rfl | rfl | rfl | rfl | rfl | rfl | rfl | rfl<;>rfl
theorem qc6 (s:List UInt8) (n m:Int) (hs:s.length≤1000000):M76 s n m=some (brW (decide (n<m)) s):=by
 show T76 Ops.std s n m some=_
 unfold T76
 simp only [qah,qan,qaa]
 by_cases h:n<m
 ·rw [if_pos h,if_pos (by omega),if_pos (by simp;omega),decide_eq_true h];rfl
 ·rw [if_neg h,decide_eq_false h];rfl
noncomputable abbrev prQ (e:List Trm):=R41 M28 M74 M61 M75 M76 e
section
variable {e:List Trm}
theorem prQ_nul (i m:Nat) (st:List Sdt) (t:Trm) (hi:i<e.length) (hx:e.getD i (Ty.dflt ty63)=t) (ht:nulT t) (hl:e.length≤30) (hs:st.length≤100):prQ e (m+1) (.l0 i st)=prQ e m (.l0 ((i+1:Nat):Int) (st++[(leafW t,7)])):=by
 have hop:=ht.op
 have hst:=str_nul ht
 obtain ⟨hm,hk⟩:=ht
 have h8:=mayLen hm
 have hU:prQ e (m+1) (.l0 i st)=T41 Ops.std M28 M74 M61 M75 M76 e (prQ e m) some (some (.l0 i st)):=rfl
 rw [hU]
 unfold T41
 simp only [qah,qaj,qal,qan,qaa,qaf,hx,mt,List.length_cons,List.length_nil,qe3,hst,ob_s,hop,show IntKind.wrap IntKind.i64 ((i:Int)+1)=((i+1:Nat):Int) from qag (by omega)]
 rw [if_pos (by omega),if_pos (by omega),if_pos trivial]
 rcases hk with h1 | h2 | h3
 ·rw [if_pos h1,decimal_is (may_num' hm h1),ob_s,if_pos (by omega)]
  unfold leafW
  rw [if_pos h1]
 ·rw [if_neg (by omega),if_pos h2,if_pos (by omega)]
  unfold leafW
  rw [if_neg (by omega),if_pos h2]
 ·rw [if_neg (by omega),if_neg (by omega),if_pos (by omega),if_pos (by simp;omega),if_pos (by omega)]
  unfold leafW
  rw [if_neg (by omega),if_neg (by omega)]
theorem prQ_un (i m:Nat) (st:List Sdt) (k:Int) (s:List UInt8) (n:Int) (hi:i<e.length) (hx:e.getD i (Ty.dflt ty63)=(k,0,[],[])) (hk:k=4∨k=5) (hl:e.length≤30) (hs:st.length≤100) (hs2:s.length≤1000):prQ e (m+1) (.l0 i (st++[(s,n)]))=prQ e m (.l0 ((i+1:Nat):Int) (st++[(unW k++brW (decide (n<6)) s,6)])):=by
 have hop:=opE_un hk
 have hst:=str_un hk
 have hb:=qa3 (decide (n<6)) s
 have hu:=unW_len k
 have hU:prQ e (m+1) (.l0 i (st++[(s,n)]))=T41 Ops.std M28 M74 M61 M75 M76 e (prQ e m) some (some (.l0 i (st++[(s,n)]))):=rfl
 rw [hU]
 unfold T41
 have hlen:(st++[(s,n)]).length=st.length+1:=by simp
 have hw:IntKind.wrap IntKind.i64 (((st++[(s,n)]).length:Int)-1)=((st.length:Nat):Int):=by rw [hlen,wrap64 (by omega) (by omega)];omega
 have hg:(st++[(s,n)]).getD st.length (Ty.dflt ty122)=(s,n):=qat st (s,n) [] _
 have htk:(st++[(s,n)]).take st.length=st:=List.take_left
 have htb:=tb_un hk
 simp only [mt] at htb
 simp only [qah,qaj,qal,qan,qaa,qaf,hx,mt,List.length_cons,List.length_nil,qe3,hst,ob_s,hop,hw,hg,htk,htb,qc6 s n 6 (by omega),show IntKind.wrap IntKind.i64 ((i:Int)+1)=((i+1:Nat):Int) from qag (by omega)]
 rw [if_pos (by omega),if_pos (by omega),if_neg (by omega),if_pos trivial,if_neg (by omega),if_pos (by omega),if_pos (by omega),if_pos (by omega),if_pos (by omega),if_pos (by omega)]
theorem prQ_bi (i m:Nat) (st:List Sdt) (k:Int) (a b:List UInt8) (la lb:Int) (hi:i<e.length) (hx:e.getD i (Ty.dflt ty63)=(k,0,[],[])) (hk:6≤k∧k≤16) (hl:e.length≤30) (hs:st.length≤100) (ha:a.length≤1000) (hb:b.length≤1000):prQ e (m+1) (.l0 i (st++[(a,la),(b,lb)]))=prQ e m (.l0 ((i+1:Nat):Int) (st++[(brW (decide (la<(lfO (lvO k):Nat))) a++opW k++brW (decide (lb<(lvO k+1:Nat))) b,((lvO k:Nat):Int))])):=by
 have hop:=opE_bi hk
 have hst:=str_bi hk
 have hl5:=lvO_le k
 have ha2:=qa3 (decide (la<(lfO (lvO k):Nat))) a
 have hb2:=qa3 (decide (lb<(lvO k+1:Nat))) b
 have ho:=opW_len k
 have hU:prQ e (m+1) (.l0 i (st++[(a,la),(b,lb)]))=T41 Ops.std M28 M74 M61 M75 M76 e (prQ e m) some (some (.l0 i (st++[(a,la),(b,lb)]))):=rfl
 rw [hU]
 unfold T41
 have hlen:(st++[(a,la),(b,lb)]).length=st.length+2:=by simp
 have hw:IntKind.wrap IntKind.i64 (((st++[(a,la),(b,lb)]).length:Int)-2)=((st.length:Nat):Int):=by rw [hlen,wrap64 (by omega) (by omega)];omega
 have hw1:IntKind.wrap IntKind.i64 (((st++[(a,la),(b,lb)]).length:Int)-1)=((st.length+1:Nat):Int):=by rw [hlen,wrap64 (by omega) (by omega)];omega
 have hw2:IntKind.wrap IntKind.i64 (((lvO k:Nat):Int)+1)=((lvO k+1:Nat):Int):=qag (by omega)
 have hg:(st++[(a,la),(b,lb)]).getD st.length (Ty.dflt ty122)=(a,la):=qat st (a,la) [(b,lb)] _
 have hg1:(st++[(a,la),(b,lb)]).getD (st.length+1) (Ty.dflt ty122)=(b,lb):=by
  simp
 have htk:(st++[(a,la),(b,lb)]).take st.length=st:=List.take_left
 have htb:=tb_bi hk
 simp only [mt] at htb
 simp only [qah,qaj,qal,qan,qaa,qaf,hx,mt,List.length_cons,List.length_nil,qe3,hst,ob_s,hop,hw,hw1,hw2,hg,hg1,htk,htb,qc6 b lb _ (show b.length≤1000000 by omega),show IntKind.wrap IntKind.i64 ((i:Int)+1)=((i+1:Nat):Int) from qag (by omega)]
 rw [if_pos (by omega),if_pos (by omega),if_neg (by omega),if_neg (by omega),if_neg (by omega)]
 by_cases h3:lvO k=3
 ·have hlf:lfO (lvO k)=4:=if_pos h3
  rw [hlf] at ha2 ⊢
  rw [if_pos (by omega),if_pos (by omega),if_pos (by omega),if_pos (by omega),qc6 a la 4 (by omega),ob_s]
  have e4:((4:Nat):Int)=4:=rfl
  rw [e4] at ha2 ⊢
  rw [if_pos (by omega),if_pos (by simp only [List.length_append];omega),if_pos (by omega),if_pos (by omega)]
 ·have hlf:lfO (lvO k)=lvO k:=if_neg h3
  rw [hlf] at ha2 ⊢
  rw [if_neg (by omega),if_pos (by omega),if_pos (by omega),if_pos (by omega),qc6 a la _ (by omega),ob_s]
  rw [if_pos (by omega),if_pos (by simp only [List.length_append];omega),if_pos (by omega),if_pos (by omega)]
theorem qef (hl:e.length≤30):∀ (t:Et),t.wf→∀ (pre rest:List Trm) (st:List Sdt) (m:Nat),e=pre++(t.flat++rest)→st.length+t.flat.length≤40→
  prQ e (m+t.flat.length) (.l0 (pre.length:Nat) st)=prQ e m (.l0 ((pre.length+t.flat.length:Nat):Int) (st++[(t.prx,((t.lv:Nat):Int))]))
 | .nul t,h,pre,rest,st,m,he,hs=>by
   have hx:e.getD pre.length (Ty.dflt ty63)=t:=by rw [he];exact qat pre t rest _
   exact prQ_nul pre.length m st t (by rw [he];simp [Et.flat]) hx h hl (by omega)
 | .un k x,h,pre,rest,st,m,he,hs=>by
   have hf:(Et.un k x).flat.length=x.flat.length+1:=by simp [Et.flat]
   have he1:e=pre++(x.flat++((k,0,[],[])::rest)):=by rw [he];simp [Et.flat]
   have ih:=qef hl x h.2 pre _ st (m+1) he1 (by omega)
   have hel:e.length=pre.length+(x.flat.length+(rest.length+1)):=by rw [he1];simp
   have hx:e.getD (pre.length+x.flat.length) (Ty.dflt ty63)=(k,0,[],[]):=by
    rw [he1,←List.append_assoc,←List.length_append];exact qat _ _ rest _
   have hlen:=x.prx_len h.2
   rw [hf,show m+(x.flat.length+1)=m+1+x.flat.length by omega,ih,prQ_un _ m st k x.prx _ (by omega) hx h.1 hl (by omega) (by omega)]
   have hd:decide (((x.lv:Nat):Int)<6)=decide (x.lv<6):=by congr 1;exact propext ⟨fun h=>by omega,fun h=>by omega⟩
   rw [hd]
   rfl
 | .bi k x y,h,pre,rest,st,m,he,hs=>by
   have hf:(Et.bi k x y).flat.length=x.flat.length+y.flat.length+1:=by simp [Et.flat];omega
   have he1:e=pre++(x.flat++(y.flat++((k,0,[],[])::rest))):=by rw [he];simp [Et.flat]
   have hel:e.length=pre.length+(x.flat.length+(y.flat.length+(rest.length+1))):=by rw [he1];simp
   have ih:=qef hl x h.2.1 pre _ st (m+1+y.flat.length) he1 (by omega)
   have ih2:=qef hl y h.2.2 (pre++x.flat) ((k,0,[],[])::rest) (st++[(x.prx,((x.lv:Nat):Int))]) (m+1) (by rw [he1];simp) (by simp;omega)
   rw [List.length_append] at ih2
   have hx:e.getD (pre.length+x.flat.length+y.flat.length) (Ty.dflt ty63)=(k,0,[],[]):=by
    rw [he1,←List.append_assoc,←List.append_assoc,←List.length_append,←List.length_append];exact qat _ _ rest _
   have hlen:=x.prx_len h.2.1
   have hlen2:=y.prx_len h.2.2
   have hst:st++[(x.prx,((x.lv:Nat):Int))]++[(y.prx,((y.lv:Nat):Int))]=st++[(x.prx,((x.lv:Nat):Int)),(y.prx,((y.lv:Nat):Int))]:=by simp
   rw [hf,show m+(x.flat.length+y.flat.length+1)=m+1+y.flat.length+x.flat.length by omega,ih,ih2,hst,prQ_bi _ m st k x.prx y.prx _ _ (by omega) hx h.1 hl (by omega) (by omega) (by omega)]
   have hd:decide (((x.lv:Nat):Int)<(lfO (lvO k):Nat))=decide (x.lv<lfO (lvO k)):=by congr 1;exact propext ⟨fun h=>by omega,fun h=>by omega⟩
   have hd2:decide (((y.lv:Nat):Int)<(lvO k+1:Nat))=decide (y.lv<lvO k+1):=by congr 1;exact propext ⟨fun h=>by omega,fun h=>by omega⟩
   rw [hd,hd2,show pre.length+x.flat.length+y.flat.length+1=pre.length+(x.flat.length+y.flat.length+1) by omega]
   rfl
end
theorem smallE_tree {t:Et} (h:t.wf) (hl:t.flat.length≤30):smallE t.flat:=by
 refine ⟨by omega,fun p hp=>?_⟩
 have hr:=qcp h hl
 unfold rightE fin30 at hr
 cases hg:eGo t.flat 0 with
 | none=>rw [hg] at hr;cases hr
 | some d=>
   have hm:∀ (e:List Trm) (d n:Int),eGo e d=some n→∀ t∈e,mayT t=true:=by
    intro e
    induction e with
    | nil=>intro d n _ t ht;cases ht
    | cons p r ih=>
      intro d n h t ht
      simp only [eGo] at h
      split at h
      ·cases h
      ·rename_i hc
       simp only [Bool.or_eq_true,Bool.not_eq_true',not_or,Bool.not_eq_false] at hc
       rcases List.mem_cons.1 ht with rfl | ht
       ·exact hc.1
       ·exact ih _ n h t ht
   have:=mayLen (hm _ _ _ hg p hp)
   omega
theorem print_ref {t:Et} (h:t.wf) (hl:t.flat.length≤30):M41 t.flat=some t.prx:=by
 show T41 Ops.std M28 M74 M61 M75 M76 t.flat (prQ t.flat 1000000) some none=_
 unfold T41
 rw [qdp t.flat (smallE_tree h hl) (by omega),ob_s,qcp h hl]
 simp only [Bool.not_true,cond_false]
 have:=qef (e:=t.flat) hl t h [] [] [] (1000000-t.flat.length) (by simp) (by simp;omega)
 rw [show 1000000-t.flat.length+t.flat.length=1000000 by omega] at this
 refine Eq.trans this ?_
 obtain ⟨m,hm⟩:∃ m,1000000-t.flat.length=m+1:=⟨1000000-t.flat.length-1,by omega⟩
 rw [hm]
 have hU:∀ (i:Int) (st:List Sdt),prQ t.flat (m+1) (.l0 i st)=T41 Ops.std M28 M74 M61 M75 M76 t.flat (prQ t.flat m) some (some (.l0 i st)):=fun _ _=>rfl
 rw [hU]
 unfold T41
 simp only [qah,qal,qaj,qaa]
 rw [if_neg (by simp),if_neg (by simp),if_pos (by simp)]
 rfl
theorem exW_ref {e:List Trm} (h:rightE e=true):M41 e=some (exW e):=by
 obtain ⟨t,t1,rfl,t3,t4,_⟩:=exW_is h
 rw [print_ref t1 t3,t4]
theorem qcq (s:List UInt8) (n m:Int) (hs:s.length≤1000000):M42 s n m=some (brW (decide (n<m)) s):=by
 show T42 Ops.std s n m some=_
 unfold T42
 simp only [qah,qan,qaa]
 by_cases h:n<m
 ·rw [if_pos h,if_pos (by omega),if_pos (by simp;omega),decide_eq_true h];rfl
 ·rw [if_neg h,decide_eq_false h];rfl
theorem str13_nul {k:Int} (h:opn k=0):M39 k=some 6:=by rcases opn_nul h with rfl | rfl | rfl<;>rfl
theorem str13_un {k:Int} (h:unaK k):M39 k=some 5:=by rcases h with rfl | rfl | rfl | rfl<;>rfl
theorem str13_bi {k:Int} (h:binK k):M39 k=some ((lvK k:Nat):Int):=by rcases h with rfl | rfl | rfl | rfl | rfl<;>rfl
theorem sgn13_nul {p:Prt} (h:opn p.1=0):∃ w,M40 p.1=some w∧(p.1≠3→w=nulW p):=by
 rcases opn_nul h with h1 | h1 | h1
 ·rw [h1];exact ⟨_,rfl,fun _=>by unfold nulW;rw [if_pos h1]⟩
 ·rw [h1];exact ⟨_,rfl,fun _=>by unfold nulW;rw [if_neg (by omega),if_pos h1]⟩
 ·rw [h1];exact ⟨_,rfl,fun h=>absurd rfl h⟩
theorem sgn13_un {k:Int} (h:unaK k):M40 k=some (unaW k):=by rcases h with rfl | rfl | rfl | rfl<;>rfl
theorem sgn13_bi {k:Int} (h:binK k):M40 k=some (binW k):=by rcases h with rfl | rfl | rfl | rfl | rfl<;>rfl
noncomputable abbrev qfR (f:List Prt):=R16 M10 M39 M40 M27 M41 M42 f
section
variable {f:List Prt} (hl:f.length≤60)
include hl
theorem qf_nul (i m:Nat) (st:List Sfd) (p:Prt) (hi:i<f.length) (hx:f.getD i (Ty.dflt ty61)=p) (hop:opn p.1=0) (h3:p.1=3→rightE p.2=true) (hs:st.length≤100):qfR f (m+1) (.l0 i st)=qfR f m (.l0 ((i+1:Nat):Int) (st++[(nulW p,6)])):=by
 obtain ⟨w,w1,w2⟩:=sgn13_nul hop
 have hnl:=nulW_len hop h3
 have hU:qfR f (m+1) (.l0 i st)=T16 Ops.std M10 M39 M40 M27 M41 M42 f (qfR f m) some (some (.l0 i st)):=rfl
 rw [hU]
 unfold T16
 simp only [qah,qaj,qal,qan,qaa,qaf,hx,mt,List.length_cons,List.length_nil,opn_ref,str13_nul hop,w1,ob_s,hop,show IntKind.wrap IntKind.i64 ((i:Int)+1)=((i+1:Nat):Int) from qag (by omega)]
 have hin:(0:Int)≤(i:Int)∧(i:Int)<(f.length:Int):=by omega
 simp only [if_pos hin]
 rw [if_pos (by omega),if_pos trivial]
 by_cases hk:p.1=3
 ·have hw:nulW p=[91]++exW p.2++[93]:=by
   unfold nulW
   rw [if_neg (by omega),if_neg (by omega)]
  rw [hw] at hnl ⊢
  simp only [List.length_append,List.length_cons,List.length_nil] at hnl
  rw [if_pos hk,exW_ref (h3 hk),ob_s,if_pos (by omega),if_pos (by simp;omega),if_pos (by omega)]
 ·rw [if_neg hk,if_pos (by omega),w2 hk]
theorem qf_un (i m:Nat) (st:List Sfd) (p:Prt) (s:List UInt8) (n:Int) (hi:i<f.length) (hx:f.getD i (Ty.dflt ty61)=p) (hop:opn p.1=1) (hs:st.length≤100) (hs2:s.length≤100000):qfR f (m+1) (.l0 i (st++[(s,n)]))=qfR f m (.l0 ((i+1:Nat):Int) (st++[(unaW p.1++brW (decide (n<5)) s,5)])):=by
 have hu:=opn_un hop
 have hb:=qa3 (decide (n<5)) s
 have hul:=unaW_len p.1
 have hU:qfR f (m+1) (.l0 i (st++[(s,n)]))=T16 Ops.std M10 M39 M40 M27 M41 M42 f (qfR f m) some (some (.l0 i (st++[(s,n)]))):=rfl
 rw [hU]
 unfold T16
 have hlen:(st++[(s,n)]).length=st.length+1:=by simp
 have hw:IntKind.wrap IntKind.i64 (((st++[(s,n)]).length:Int)-1)=((st.length:Nat):Int):=by rw [hlen,wrap64 (by omega) (by omega)];omega
 have hg:(st++[(s,n)]).getD st.length (Ty.dflt ty82)=(s,n):=qat st (s,n) [] _
 have htk:(st++[(s,n)]).take st.length=st:=List.take_left
 simp only [qah,qaj,qal,qan,qaa,qaf,hx,mt,List.length_cons,List.length_nil,opn_ref,str13_un hu,sgn13_un hu,ob_s,hop,hw,hg,htk,qcq s n 5 (by omega),show IntKind.wrap IntKind.i64 ((i:Int)+1)=((i+1:Nat):Int) from qag (by omega)]
 have hin:(0:Int)≤(i:Int)∧(i:Int)<(f.length:Int):=by omega
 simp only [if_pos hin]
 rw [if_pos (by omega),if_neg (by omega),if_pos trivial,if_neg (by omega),if_pos (by omega),if_pos (by omega),if_pos trivial,if_pos (by omega),if_pos (by omega),if_pos (by omega)]
theorem qf_bi (i m:Nat) (st:List Sfd) (p:Prt) (a b:List UInt8) (la lb:Int) (hi:i<f.length) (hx:f.getD i (Ty.dflt ty61)=p) (hop:opn p.1=2) (hs:st.length≤100) (ha:a.length≤100000) (hb:b.length≤100000):qfR f (m+1) (.l0 i (st++[(a,la),(b,lb)]))=qfR f m (.l0 ((i+1:Nat):Int) (st++[(brW (decide (la<(lfK (lvK p.1):Nat))) a++binW p.1++brW (decide (lb<(rtK (lvK p.1):Nat))) b,((lvK p.1:Nat):Int))])):=by
 have hu:=opn_bi hop
 have hlv:=lvK_le (k:=p.1)
 have ha2:=qa3 (decide (la<(lfK (lvK p.1):Nat))) a
 have hb2:=qa3 (decide (lb<(rtK (lvK p.1):Nat))) b
 have ho:=binW_len p.1
 have hU:qfR f (m+1) (.l0 i (st++[(a,la),(b,lb)]))=T16 Ops.std M10 M39 M40 M27 M41 M42 f (qfR f m) some (some (.l0 i (st++[(a,la),(b,lb)]))):=rfl
 rw [hU]
 unfold T16
 have hlen:(st++[(a,la),(b,lb)]).length=st.length+2:=by simp
 have hw:IntKind.wrap IntKind.i64 (((st++[(a,la),(b,lb)]).length:Int)-2)=((st.length:Nat):Int):=by rw [hlen,wrap64 (by omega) (by omega)];omega
 have hw1:IntKind.wrap IntKind.i64 (((st++[(a,la),(b,lb)]).length:Int)-1)=((st.length+1:Nat):Int):=by rw [hlen,wrap64 (by omega) (by omega)];omega
 have hw2:IntKind.wrap IntKind.i64 (((lvK p.1:Nat):Int)+1)=((lvK p.1+1:Nat):Int):=qag (by omega)
 have hg:(st++[(a,la),(b,lb)]).getD st.length (Ty.dflt ty82)=(a,la):=qat st (a,la) [(b,lb)] _
 have hg1:(st++[(a,la),(b,lb)]).getD (st.length+1) (Ty.dflt ty82)=(b,lb):=by
  simp
 have htk:(st++[(a,la),(b,lb)]).take st.length=st:=List.take_left
 have w1:∀ m,M42 a la m=some (brW (decide (la<m)) a):=fun m=>qcq a la m (by omega)
 have w2:∀ m,M42 b lb m=some (brW (decide (lb<m)) b):=fun m=>qcq b lb m (by omega)
 simp only [qah,qaj,qal,qan,qaa,qaf,hx,mt,List.length_cons,List.length_nil,opn_ref,str13_bi hu,sgn13_bi hu,ob_s,hop,hw,hw1,hw2,hg,hg1,htk,w1,w2,show IntKind.wrap IntKind.i64 ((i:Int)+1)=((i+1:Nat):Int) from qag (by omega)]
 have hin:(0:Int)≤(i:Int)∧(i:Int)<(f.length:Int):=by omega
 simp only [if_pos hin]
 have i1:(0:Int)≤((st.length:Nat):Int)∧((st.length:Nat):Int)<(((st++[(a,la),(b,lb)]).length:Nat):Int):=by omega
 have i2:(0:Int)≤((st.length+1:Nat):Int)∧((st.length+1:Nat):Int)<(((st++[(a,la),(b,lb)]).length:Nat):Int):=by omega
 have i3:(0:Int)≤((st.length:Nat):Int)∧((st.length:Nat):Int)<(((st++[(a,la),(b,lb)]).length+1:Nat):Int):=by omega
 rw [if_pos (by omega),if_neg (by omega),if_neg (by omega),if_neg (by omega)]
 simp only [if_pos i1,if_pos i2,if_pos i3]
 by_cases hr:lvK p.1=1∨lvK p.1=4
 ·have e1:lfK (lvK p.1)=lvK p.1+1:=if_pos hr
  have e2:rtK (lvK p.1)=lvK p.1:=if_pos hr
  rw [e1] at ha2 ⊢
  rw [e2] at hb2 ⊢
  by_cases h1:((lvK p.1:Nat):Int)=1
  ·rw [if_pos h1,if_pos (by omega),if_pos (by simp only [List.length_append];omega),if_pos trivial,if_pos (by omega),if_pos (by omega)]
  ·rw [if_neg h1,if_pos (by omega),if_pos (by omega),if_pos (by simp only [List.length_append];omega),if_pos trivial,if_pos (by omega),if_pos (by omega)]
 ·have e1:lfK (lvK p.1)=lvK p.1:=if_neg hr
  have e2:rtK (lvK p.1)=lvK p.1+1:=if_neg hr
  rw [e1] at ha2 ⊢
  rw [e2] at hb2 ⊢
  rw [if_neg (by omega),if_neg (by omega),if_pos (by omega),if_pos (by simp only [List.length_append];omega),if_pos trivial,if_pos (by omega),if_pos (by omega)]
theorem qf_tree:∀ (t:Fm Trm),t.wf rightE→t.size≤60→∀ (pre rest:List Prt) (st:List Sfd) (m:Nat),f=pre++(t.flat++rest)→st.length+t.size≤70→
  qfR f (m+t.size) (.l0 (pre.length:Nat) st)=qfR f m (.l0 ((pre.length+t.size:Nat):Int) (st++[(t.prf,((t.lvF:Nat):Int))]))
 | .nul p,h,h60,pre,rest,st,m,he,hs=>by
   have hx:f.getD pre.length (Ty.dflt ty61)=p:=by rw [he];exact qat pre p rest _
   exact qf_nul hl pre.length m st p (by rw [he];simp [Fm.flat]) hx h.1 h.2.1 (by omega)
 | .un p x,h,h60,pre,rest,st,m,he,hs=>by
   have hf:(Fm.un p x).size=x.size+1:=rfl
   have hxl:=x.flat_len
   have he1:f=pre++(x.flat++(p::rest)):=by rw [he];simp [Fm.flat]
   have ih:=qf_tree x h.2.2 (by omega) pre _ st (m+1) he1 (by omega)
   have hel:f.length=pre.length+(x.size+(rest.length+1)):=by rw [he1];simp [hxl]
   have hx:f.getD (pre.length+x.size) (Ty.dflt ty61)=p:=by
    rw [he1,←List.append_assoc,←hxl,←List.length_append];exact qat _ _ rest _
   have hlen:=x.prf_len h.2.2
   have hst:=qf_un hl (pre.length+x.size) m st p x.prf (((x.lvF:Nat):Int)) (by omega) hx h.1 (by omega) (by omega)
   rw [hf,show m+(x.size+1)=m+1+x.size by omega,ih,hst]
   have hd:decide (((x.lvF:Nat):Int)<5)=decide (x.lvF<5):=by congr 1;exact propext ⟨fun h=>by omega,fun h=>by omega⟩
   rw [hd]
   rfl
 | .bi p x y,h,h60,pre,rest,st,m,he,hs=>by
   have hf:(Fm.bi p x y).size=x.size+y.size+1:=rfl
   have hxl:=x.flat_len
   have hyl:=y.flat_len
   have he1:f=pre++(x.flat++(y.flat++(p::rest))):=by rw [he];simp [Fm.flat]
   have hel:f.length=pre.length+(x.size+(y.size+(rest.length+1))):=by rw [he1];simp [hxl,hyl]
   have ih:=qf_tree x h.2.2.1 (by omega) pre _ st (m+1+y.size) he1 (by omega)
   have ih2:=qf_tree y h.2.2.2 (by omega) (pre++x.flat) (p::rest) (st++[(x.prf,((x.lvF:Nat):Int))]) (m+1) (by rw [he1];simp) (by simp;omega)
   rw [List.length_append,hxl] at ih2
   have hx:f.getD (pre.length+x.size+y.size) (Ty.dflt ty61)=p:=by
    rw [he1,←List.append_assoc,←List.append_assoc,←hxl,←hyl,←List.length_append,←List.length_append];exact qat _ _ rest _
   have hlen:=x.prf_len h.2.2.1
   have hlen2:=y.prf_len h.2.2.2
   have hst:st++[(x.prf,((x.lvF:Nat):Int))]++[(y.prf,((y.lvF:Nat):Int))]=st++[(x.prf,((x.lvF:Nat):Int)),(y.prf,((y.lvF:Nat):Int))]:=by simp
   have hstp:=qf_bi hl (pre.length+x.size+y.size) m st p x.prf y.prf (((x.lvF:Nat):Int)) (((y.lvF:Nat):Int)) (by omega) hx h.1 (by omega) (by omega) (by omega)
   rw [hf,show m+(x.size+y.size+1)=m+1+y.size+x.size by omega,ih,ih2,hst,hstp]
   have hd:decide (((x.lvF:Nat):Int)<(lfK (lvK p.1):Nat))=decide (x.lvF<lfK (lvK p.1)):=by congr 1;exact propext ⟨fun h=>by omega,fun h=>by omega⟩
   have hd2:decide (((y.lvF:Nat):Int)<(rtK (lvK p.1):Nat))=decide (y.lvF<rtK (lvK p.1)):=by congr 1;exact propext ⟨fun h=>by omega,fun h=>by omega⟩
   rw [hd,hd2,show pre.length+x.size+y.size+1=pre.length+(x.size+y.size+1) by omega]
   rfl
end
theorem shortP.e {p:Prt} (h:shortP p):smallE p.2:=⟨by have:=h.1;omega,fun t ht=>by have:=h.2 t ht;omega⟩
theorem qci {f:List Prt} (hl:f.length≤100) (hs:∀ p∈f,shortP p):M10 f=some (rightF rightE f):=
 right_ref rightE f (fun p hp=>qdp p.2 (hs p hp).e (by have:=(hs p hp).1;omega)) ⟨by omega,fun p hp=>by have:=(hs p hp).1;omega⟩
theorem qds {f:List Prt} (hl:f.length≤100) (hs:∀ p∈f,shortP p):M9 f=some (rightF rightE f):=
 qfp rightE f (fun p hp=>qbx p.2 (by have:=(hs p hp).1;omega)) ⟨by omega,fun p hp=>by have:=(hs p hp).1;omega⟩
theorem fprint_ref {t:Fm Trm} (ht:t.wf rightE) (hs:∀ p∈t.flat,shortP p) (h60:t.size≤60):M16 t.flat=some t.prf:=by
 show T16 Ops.std M10 M39 M40 M27 M41 M42 t.flat (qfR t.flat 1000000) some none=_
 unfold T16
 have hl:=t.flat_len
 rw [qci (by omega) hs,qe2 rightE ht h60,ob_s]
 simp only [Bool.not_true,cond_false]
 have:=qf_tree (f:=t.flat) (by omega) t ht h60 [] [] [] (1000000-t.size) (by simp) (by simp;omega)
 rw [show 1000000-t.size+t.size=1000000 by omega] at this
 refine Eq.trans this ?_
 obtain ⟨m,hm⟩:∃ m,1000000-t.size=m+1:=⟨1000000-t.size-1,by omega⟩
 rw [hm]
 have hU:∀ (i:Int) (st:List Sfd),qfR t.flat (m+1) (.l0 i st)=T16 Ops.std M10 M39 M40 M27 M41 M42 t.flat (qfR t.flat m) some (some (.l0 i st)):=fun _ _=>rfl
 rw [hU]
 unfold T16
 simp only [qah,qal,qaj,qaa]
 rw [if_neg (by simp;omega),if_neg (by simp),if_pos (by simp)]
 rfl
theorem fprint_both {f:List Prt} (hl:f.length≤100) (hs:∀ p∈f,shortP p):∃ s,M15 f=some s∧M16 f=some s:=by
 cases hr:rightF rightE f with
 | true=>
   obtain ⟨t,t1,rfl,t3⟩:=qe1 rightE hr
   exact ⟨_,fprint_prog t1 hs t3,fprint_ref t1 hs t3⟩
 | false=>
   refine ⟨[],?_,?_⟩
   ·show T15 Ops.std M9 M25 M38 M37 f (pfR f 1000000) some none=_
    unfold T15
    rw [qds hl hs,hr,ob_s];rfl
   ·show T16 Ops.std M10 M39 M40 M27 M41 M42 f (qfR f 1000000) some none=_
    unfold T16
    rw [qci hl hs,hr,ob_s];rfl
def Tells (o:Option Bool) (p:Prop):Prop:=∃ b,o=some b∧(b=true↔p)
theorem qbp {α:Type} (f g:List α) (d:α) (hl:f.length=g.length) (Run:Nat→Nat→Option Bool)
  (hstep:∀ n i,i<f.length→∃ c:Bool,(c=true↔f.getD i d=g.getD i d)∧Run (n+1) i=cond c (Run n (i+1)) (some false))
  (hend:∀ n,Run (n+1) f.length=some true):∀ (t i n:Nat),i+t=f.length→t<n→(∀ j,j<i→f.getD j d=g.getD j d)→Tells (Run n i) (f=g)
 | t,i,0,hi,hn,hj=>by omega
 | 0,i,n+1,hi,hn,hj=>by
   have:i=f.length:=by omega
   subst this
   refine ⟨true,hend n,⟨fun _=>?_,fun _=>rfl⟩⟩
   apply List.ext_getElem hl
   intro k h1 h2
   have:=hj k h1
   rw [List.getD_eq_getElem?_getD,List.getD_eq_getElem?_getD,List.getElem?_eq_getElem h1,List.getElem?_eq_getElem h2] at this
   simpa using this
 | t+1,i,n+1,hi,hn,hj=>by
   obtain ⟨c,hc,hr⟩:=hstep n i (by omega)
   rw [hr]
   cases hcc:c with
   | true=>
     simp only [cond_true]
     refine qbp f g d hl Run hstep hend t (i+1) n (by omega) (by omega) fun j hj'=>?_
     by_cases h:j=i
     ·subst h;exact hc.1 hcc
     ·exact hj j (by omega)
   | false=>
     refine ⟨false,rfl,?_⟩
     constructor
     ·intro h;cases h
     ·intro h
      exfalso
      have:c=true:=hc.2 (by rw [h])
      rw [hcc] at this;cases this
theorem trm_eq (s t:Trm):(decide (s.1=t.1) && (decide (s.2.1=t.2.1) && (s.2.2.1 == t.2.2.1 && (s.2.2.2 == t.2.2.2 && true))))=true↔s=t:=by
 obtain ⟨a,b,c,d⟩:=s
 obtain ⟨a',b',c',d'⟩:=t
 simp only [Bool.and_eq_true,decide_eq_true_eq,beq_iff_eq,and_true,Prod.mk.injEq]
theorem qeg {α:Type} (c:Bool) (x y:α):cond (!c) x y=cond c y x:=by cases c<;>rfl
section
variable {e e':List Trm}
theorem qeh {α:Type} {f g:List α} (h:¬ f.length=g.length):¬ f=g:=fun e=>h (by rw [e])
theorem sameE_prog (hl:e.length<900000):Tells (M69 e e') (e=e'):=by
 show Tells (T69 Ops.std e e' (R69 e e' 1000000) some none) _
 unfold T69
 simp only [qal,qaw,qaa]
 by_cases h:e.length=e'.length
 ·rw [if_neg (by omega)]
  refine qbp e e' (Ty.dflt ty63) h (fun n i=>R69 e e' n (.l0 (e.length:Nat) (i:Nat))) (fun n i hi=>?_) (fun n=>?_) e.length 0 1000000 (by omega) (by omega) (fun j hj=>by omega)
  ·refine ⟨_,trm_eq _ _,?_⟩
   show T69 Ops.std e e' _ some _=_
   unfold T69
   simp only [qah,qaj,qal,qaa,qaf,qeg]
   rw [if_pos (by omega),if_pos (by omega),if_pos (by omega),show IntKind.wrap IntKind.i64 ((i:Int)+1)=((i+1:Nat):Int) from qag (by omega)]
  ·show T69 Ops.std e e' _ some _=_
   unfold T69
   simp only [qah,qaa]
   rw [if_neg (by omega)]
 ·rw [if_pos (by omega)]
  exact ⟨false,rfl,by simp [qeh h]⟩
theorem sameE_ref (hl:e.length<900000):Tells (M36 e e') (e=e'):=by
 show Tells (T36 Ops.std e e' (R36 e e' 1000000) some none) _
 unfold T36
 simp only [qal,qaw,qaa]
 by_cases h:e.length=e'.length
 ·rw [if_neg (by omega)]
  refine qbp e e' (Ty.dflt ty63) h (fun n i=>R36 e e' n (.l0 (i:Nat))) (fun n i hi=>?_) (fun n=>?_) e.length 0 1000000 (by omega) (by omega) (fun j hj=>by omega)
  ·refine ⟨_,trm_eq _ _,?_⟩
   show T36 Ops.std e e' _ some _=_
   unfold T36
   simp only [qah,qaj,qal,qaa,qaf,qeg]
   rw [if_pos (by omega),if_pos (by omega),if_pos (by omega),show IntKind.wrap IntKind.i64 ((i:Int)+1)=((i+1:Nat):Int) from qag (by omega)]
  ·show T36 Ops.std e e' _ some _=_
   unfold T36
   simp only [qah,qaa]
   rw [if_neg (by omega)]
 ·rw [if_pos (by omega)]
  exact ⟨false,rfl,by simp [qeh h]⟩
theorem sameEe_prog (hl:e.length<900000):Tells (M35 e e') (e=e'):=by
 obtain ⟨b,h1,h2⟩:=sameE_prog (e':=e') hl
 refine ⟨b,?_,h2⟩
 show T35 Ops.std M69 e e' some=_
 unfold T35
 rw [h1,ob_s]
end
theorem prt_eq (s t:Prt):s=t↔s.1=t.1∧s.2=t.2:=by
 constructor
 ·intro h;rw [h];exact ⟨rfl,rfl⟩
 ·intro h;cases s;cases t;simp at h;simp [h]
section
variable {f g:List Prt}
theorem sameF_ref (hf:smallF f):Tells (M14 f g) (f=g):=by
 have hl:=hf.1
 show Tells (T14 Ops.std M36 f g (R14 M36 f g 1000000) some none) _
 unfold T14
 simp only [qal,qaw,qaa]
 by_cases h:f.length=g.length
 ·rw [if_neg (by omega)]
  refine qbp f g (Ty.dflt ty61) h (fun n i=>R14 M36 f g n (.l0 (i:Nat))) (fun n i hi=>?_) (fun n=>?_) f.length 0 1000000 (by omega) (by omega) (fun j hj=>by omega)
  ·obtain ⟨b,h1,h2⟩:=sameE_ref (e:=(f.getD i (Ty.dflt ty61)).2) (e':=(g.getD i (Ty.dflt ty61)).2) (hf.at hi)
   refine ⟨decide ((f.getD i (Ty.dflt ty61)).1=(g.getD i (Ty.dflt ty61)).1) && b,?_,?_⟩
   ·rw [prt_eq,Bool.and_eq_true,decide_eq_true_eq,h2]
   ·show T14 Ops.std _ f g _ some _=_
    unfold T14
    simp only [qah,qaj,qal,qaa,qaf,qeg]
    rw [if_pos (by omega),if_pos (by omega),if_pos (by omega),h1,ob_s,show IntKind.wrap IntKind.i64 ((i:Int)+1)=((i+1:Nat):Int) from qag (by omega)]
    by_cases hk:(f.getD i (Ty.dflt ty61)).1=(g.getD i (Ty.dflt ty61)).1
    ·rw [if_pos hk,if_pos (by omega),if_pos (by omega),decide_eq_true hk,Bool.true_and]
    ·rw [if_neg hk,decide_eq_false hk,Bool.false_and];rfl
  ·show T14 Ops.std _ f g _ some _=_
   unfold T14
   simp only [qah,qaa]
   rw [if_neg (by omega)]
 ·rw [if_pos (by omega)]
  exact ⟨false,rfl,by simp [qeh h]⟩
theorem sameF1_prog (p q:Prt) (h:p.2.length<900000):Tells (M34 p.1 p.2 q.1 q.2) (p=q):=by
 obtain ⟨b,h1,h2⟩:=sameEe_prog (e:=p.2) (e':=q.2) h
 show Tells (T34 Ops.std M35 p.1 p.2 q.1 q.2 some) _
 unfold T34
 simp only [qal,qaa]
 by_cases hk:p.1=q.1
 ·rw [if_pos hk,h1,ob_s]
  exact ⟨b,rfl,by rw [prt_eq,h2];simp [hk]⟩
 ·rw [if_neg hk]
  exact ⟨false,rfl,by rw [prt_eq];simp [hk]⟩
theorem sameF_eqf (hf:smallF f):Tells (M33 f g) (f=g):=by
 have hl:=hf.1
 show Tells (T33 Ops.std M34 f g (R33 M34 f g 1000000) some none) _
 unfold T33
 simp only [qal,qaw,qaa]
 by_cases h:f.length=g.length
 ·rw [if_neg (by omega)]
  refine qbp f g (Ty.dflt ty61) h (fun n i=>R33 M34 f g n (.l0 (f.length:Nat) (i:Nat))) (fun n i hi=>?_) (fun n=>?_) f.length 0 1000000 (by omega) (by omega) (fun j hj=>by omega)
  ·obtain ⟨b,h1,h2⟩:=sameF1_prog (f.getD i (Ty.dflt ty61)) (g.getD i (Ty.dflt ty61)) (hf.at hi)
   refine ⟨b,h2,?_⟩
   show T33 Ops.std _ f g _ some _=_
   unfold T33
   simp only [qah,qaj,qal,qaa,qaf,qeg]
   rw [if_pos (by omega),if_pos (by omega),if_pos (by omega),h1,ob_s,show IntKind.wrap IntKind.i64 ((i:Int)+1)=((i+1:Nat):Int) from qag (by omega)]
  ·show T33 Ops.std _ f g _ some _=_
   unfold T33
   simp only [qah,qaa]
   rw [if_neg (by omega)]
 ·rw [if_pos (by omega)]
  exact ⟨false,rfl,by simp [qeh h]⟩
theorem sameF_prog (hf:smallF f):Tells (M13 f g) (f=g):=by
 obtain ⟨b,h1,h2⟩:=sameF_eqf (g:=g) hf
 refine ⟨b,?_,h2⟩
 show T13 Ops.std M33 M34 f g some=_
 unfold T13
 rw [h1,ob_s]
end
theorem pickN (x:Int) (n:Nat) (h0:0<n) (h1:n<1000000):∃ k:Nat,k<n∧M22 x (n:Nat)=some (k:Int):=by
 show ∃ k:Nat,k<n∧T22 Ops.std x (n:Nat) some=_
 unfold T22
 simp only [qal,qah,qaa]
 rw [if_neg (by omega)]
 have h2:=Int.tmod_lt_of_pos x (show (0:Int)<(n:Nat) by omega)
 have h3:=Int.lt_tmod_of_pos x (show (0:Int)<(n:Nat) by omega)
 generalize Int.tmod x (n:Nat)=q at h2 h3 ⊢
 by_cases hq:q<0
 ·refine ⟨(q+n).toNat,by omega,?_⟩
  rw [if_pos hq,wrap64 (by omega) (by omega)]
  congr 1;omega
 ·refine ⟨q.toNat,by omega,?_⟩
  rw [if_neg hq]
  congr 1;omega
theorem qcr (l:List Int) (pl:Nat) (a:Nat) (ha:a≤1000) (n:Nat) (h0:0<n) (h1:n<1000):∃ (k a':Nat),k<n∧a≤a'∧a'≤a+1∧M50 (n:Nat) l (a:Nat)=some ((k:Int),l,(a':Int)):=by
 show ∃ (k a':Nat),k<n∧a≤a'∧a'≤a+1∧T50 Ops.std M22 (n:Nat) l (a:Nat) some=_
 unfold T50
 simp only [qal,qaj,qaa]
 by_cases hl:(l.length:Int)=0
 ·rw [if_pos hl]
  exact ⟨0,a,h0,Nat.le_refl _,by omega,rfl⟩
 ·have hw:IntKind.wrap IntKind.i64 ((a:Int)+1)=((a+1:Nat):Int):=qag (by omega)
  rw [if_neg hl,if_neg hl,hw]
  have ht:Int.tmod ((a+1:Nat):Int) (l.length:Nat)=(((a+1) % l.length:Nat):Int):=by rw [←Int.ofNat_tmod]
  have hd:Int.tdiv ((a+1:Nat):Int) (l.length:Nat)=(((a+1) / l.length:Nat):Int):=by rw [←Int.ofNat_tdiv]
  rw [ht,hd]
  have hlp:0<l.length:=by omega
  have hm:=Nat.mod_lt (a+1) hlp
  have hq:(a+1) / l.length≤a+1:=Nat.div_le_self _ _
  generalize (a+1) / l.length=q at hq ⊢
  generalize (a+1) % l.length=m at hm ⊢
  rw [if_pos (by omega),if_neg hl,wrap64 (n:=(q:Int)) (by omega) (by omega),wrap64 (n:=1+(q:Int)) (by omega) (by omega),if_neg (by omega)]
  obtain ⟨k,hk,hp⟩:=pickN (IntKind.wrap IntKind.i64 (Int.tdiv (l.getD (Int.toNat (m:Int)) (Ty.dflt ty3)) (1+(q:Int)))) n h0 (by omega)
  rw [hp,ob_s]
  exact ⟨k,a+1,hk,by omega,by omega,rfl⟩
def fB:Nat→Nat
 | 0=>20
 | h+1=>2*fB h+20
def fA:Nat→Nat
 | 0=>3
 | h+1=>2*fA h+3
theorem fB_le:∀ h,h≤3→fB h≤300∧fA h≤45:=by
 intro h hh
 match h with
 | 0 | 1 | 2 | 3=>decide
def FOk (l:List Int) (o:Option (List UInt8×List Int×Int)) (a b c:Nat):Prop:=∃ (s:List UInt8) (a':Nat),o=some (s,l,(a':Int))∧s.length≤b∧a≤a'∧a'≤a+c
theorem qaq {l:List (List UInt8)} {n:Nat} (h:l.all (fun x=>decide (x.length≤n))=true) (k:Nat):(l.getD k []).length≤n:=by
 rw [List.getD_eq_getElem?_getD]
 cases hk:l[k]? with
 | none=>simp
 | some x=>
   rw [List.all_eq_true] at h
   simpa using h x (List.mem_of_getElem? hk)
theorem form_k (l:List Int) (deep:Int) (d:Nat) (dp0:Int) (l0:List Int) (a0:Int) (B A:Nat) (hB:B≤300) (hA:A≤45) (k:Nat) (hk:k<22) (V:Nat) (hV:V≤900) (hrec:k<18→∀ a:Nat,a≤V→FOk l (Rec21 d (IntKind.wrap IntKind.i64 (deep+1)) l a) a B A) (a:Nat) (ha:a+60≤V) (n:Nat) :
  FOk l (R21 M50 (Rec21 d) deep l0 a0 (n+1) (.l1004 k l a)) a (2*B+20) (2*A+2):=by
 show FOk l (T21 Ops.std M50 (Rec21 d) deep l0 a0 _ some _) a _ _
 unfold T21
 simp only [qah,qal,qaj,qan,qaa,mt]
 by_cases h3:(k:Int)<3
 ·obtain ⟨s,a1,e1,e2,e3,e4⟩:=hrec (by omega) a (by omega)
  rw [if_pos h3,e1,ob_s]
  dsimp only
  simp only [List.length_append,List.length_cons,List.length_nil]
  rw [if_pos (by omega),if_pos (by omega)]
  exact ⟨_,a1,rfl,by simp;omega,by omega,by omega⟩
 ·rw [if_neg h3]
  by_cases h6:(k:Int)<6
  ·obtain ⟨s,a1,e1,e2,e3,e4⟩:=hrec (by omega) a (by omega)
   rw [if_pos h6,e1,ob_s]
   dsimp only
   simp only [List.length_append,List.length_cons,List.length_nil]
   rw [if_pos (by omega),if_pos (by omega)]
   exact ⟨_,a1,rfl,by simp;omega,by omega,by omega⟩
  ·rw [if_neg h6]
   by_cases h8:(k:Int)<8
   ·obtain ⟨s,a1,e1,e2,e3,e4⟩:=hrec (by omega) a (by omega)
    rw [if_pos h8,e1,ob_s]
    dsimp only
    rw [if_pos (by omega)]
    exact ⟨_,a1,rfl,by simp;omega,by omega,by omega⟩
   ·rw [if_neg h8]
    by_cases h11:(k:Int)<11
    ·obtain ⟨s,a1,e1,e2,e3,e4⟩:=hrec (by omega) a (by omega)
     rw [if_pos h11,e1,ob_s]
     dsimp only
     obtain ⟨j,a2,g1,g2,g3,g4⟩:=qcr l 0 a1 (by omega) 2 (by omega) (by omega)
     have g4':M50 2 l (a1:Int)=some ((j:Int),l,(a2:Int)):=g4
     rw [if_pos (by omega),g4',ob_s]
     dsimp only
     rw [if_pos (by omega)]
     obtain ⟨s2,a3,f1,f2,f3,f4⟩:=hrec (by omega) a2 (by omega)
     have hlen:=qaq (n:=3) (l:=[([32,85,32]:List UInt8),([32,82,32]:List UInt8)]) rfl (Int.toNat (j:Int))
     generalize ([([32,85,32]:List UInt8),([32,82,32]:List UInt8)]:List (List UInt8)).getD (Int.toNat (j:Int)) []=x at hlen ⊢
     simp only [List.length_append,List.length_cons,List.length_nil]
     rw [if_pos (by omega),f1,ob_s]
     dsimp only
     rw [if_pos (by omega),if_pos (by omega)]
     exact ⟨_,a3,rfl,by simp;omega,by omega,by omega⟩
    ·rw [if_neg h11]
     by_cases h15:(k:Int)<15
     ·obtain ⟨s,a1,e1,e2,e3,e4⟩:=hrec (by omega) a (by omega)
      rw [if_pos h15,e1,ob_s]
      dsimp only
      obtain ⟨j,a2,g1,g2,g3,g4⟩:=qcr l 0 a1 (by omega) 3 (by omega) (by omega)
      have g4':M50 3 l (a1:Int)=some ((j:Int),l,(a2:Int)):=g4
      rw [if_pos (by omega),g4',ob_s]
      dsimp only
      rw [if_pos (by omega)]
      obtain ⟨s2,a3,f1,f2,f3,f4⟩:=hrec (by omega) a2 (by omega)
      have hlen:=qaq (n:=4) (l:=[([32,38,38,32]:List UInt8),([32,124,124,32]:List UInt8),([32,45,62,32]:List UInt8)]) rfl (Int.toNat (j:Int))
      generalize ([([32,38,38,32]:List UInt8),([32,124,124,32]:List UInt8),([32,45,62,32]:List UInt8)]:List (List UInt8)).getD (Int.toNat (j:Int)) []=x at hlen ⊢
      simp only [List.length_append,List.length_cons,List.length_nil]
      rw [if_pos (by omega),f1,ob_s]
      dsimp only
      rw [if_pos (by omega),if_pos (by omega)]
      exact ⟨_,a3,rfl,by simp;omega,by omega,by omega⟩
     ·rw [if_neg h15]
      by_cases h17:(k:Int)<17
      ·obtain ⟨s,a1,e1,e2,e3,e4⟩:=hrec (by omega) a (by omega)
       rw [if_pos h17,e1,ob_s]
       dsimp only
       rw [if_pos (by omega)]
       exact ⟨_,a1,rfl,by simp;omega,by omega,by omega⟩
      ·rw [if_neg h17]
       by_cases h17':(k:Int)=17
       ·obtain ⟨s,a1,e1,e2,e3,e4⟩:=hrec (by omega) a (by omega)
        rw [if_pos h17',e1,ob_s]
        dsimp only
        rw [if_pos (by omega)]
        exact ⟨_,a1,rfl,by simp;omega,by omega,by omega⟩
       ·rw [if_neg h17']
        by_cases h18:(k:Int)=18
        ·rw [if_pos h18]
         obtain ⟨j,a2,g1,g2,g3,g4⟩:=qcr l 0 a (by omega) 2 (by omega) (by omega)
         have g4':M50 2 l (a:Int)=some ((j:Int),l,(a2:Int)):=g4
         rw [g4',ob_s]
         dsimp only
         rw [if_pos (by omega)]
         have hlen:=qaq (n:=5) (l:=[([116,114,117,101]:List UInt8),([102,97,108,115,101]:List UInt8)]) rfl (Int.toNat (j:Int))
         exact ⟨_,a2,rfl,by omega,by omega,by omega⟩
        ·rw [if_neg h18]
         obtain ⟨j,a2,g1,g2,g3,g4⟩:=qcr l 0 a (by omega) 6 (by omega) (by omega)
         have g4':M50 6 l (a:Int)=some ((j:Int),l,(a2:Int)):=g4
         rw [g4',ob_s]
         dsimp only
         rw [if_pos (by omega)]
         have hlen:=qaq (n:=10) (l:=[([91,120,61,61,49,93]:List UInt8),([91,112,64,97,93]:List UInt8),([91,121,60,49,93]:List UInt8),([91,113,64,98,38,38,120,62,48,93]:List UInt8),([91,120,61,61,121,93]:List UInt8),([91,112,64,98,93]:List UInt8)]) rfl (Int.toNat (j:Int))
         exact ⟨_,a2,rfl,by omega,by omega,by omega⟩
theorem FOk.mono {l:List Int} {o:Option (List UInt8×List Int×Int)} {a b c b' c':Nat} (h:FOk l o a b c) (hb:b≤b') (hc:c≤c'):FOk l o a b' c':=by
 obtain ⟨s,a',e1,e2,e3,e4⟩:=h
 exact ⟨s,a',e1,by omega,e3,by omega⟩
theorem form_h (l:List Int):∀ (h:Nat),h≤3→∀ (d:Nat),h<d→∀ (a:Nat),a≤400-100*h→FOk l (Rec21 d ((3-h:Nat):Int) l a) a (fB h) (fA h):=by
 intro h
 induction h with
 | zero=>
   intro hh d hd a ha
   obtain ⟨e,rfl⟩:∃ e,d=e+1:=⟨d-1,by omega⟩
   show FOk l (T21 Ops.std M50 (Rec21 e) ((3-0:Nat):Int) l a (R21 M50 (Rec21 e) ((3-0:Nat):Int) l a 1000000) some none) a _ _
   unfold T21
   obtain ⟨k,a1,e1,e2,e3,e4⟩:=qcr l 0 a (by omega) 22 (by omega) (by omega)
   have e4':M50 22 l (a:Int)=some ((k:Int),l,(a1:Int)):=e4
   rw [e4',ob_s]
   simp only [qah,qal,qaa]
   rw [if_pos (by omega),if_neg (by omega)]
   have ht:Int.tmod (k:Int) 4=((k % 4:Nat):Int):=by rw [show (4:Int)=((4:Nat):Int) from rfl,←Int.ofNat_tmod]
   rw [ht,show IntKind.wrap IntKind.i64 (18+((k % 4:Nat):Int))=((18+k % 4:Nat):Int) by rw [wrap64 (by omega) (by omega)];omega]
   have:=form_k l ((3-0:Nat):Int) e ((3-0:Nat):Int) l (a:Int) 0 0 (by omega) (by omega) (18+k % 4) (by omega) 900 (by omega) (fun h=>by omega) a1 (by omega) 999999
   obtain ⟨s,a',g1,g2,g3,g4⟩:=this
   exact ⟨s,a',g1,by simp [fB];omega,by omega,by simp [fA];omega⟩
 | succ h ih=>
   intro hh d hd a ha
   obtain ⟨e,rfl⟩:∃ e,d=e+1:=⟨d-1,by omega⟩
   have hb:=fB_le h (by omega)
   show FOk l (T21 Ops.std M50 (Rec21 e) ((3-(h+1):Nat):Int) l a (R21 M50 (Rec21 e) ((3-(h+1):Nat):Int) l a 1000000) some none) a _ _
   unfold T21
   obtain ⟨k,a1,e1,e2,e3,e4⟩:=qcr l 0 a (by omega) 22 (by omega) (by omega)
   have e4':M50 22 l (a:Int)=some ((k:Int),l,(a1:Int)):=e4
   rw [e4',ob_s]
   simp only [qah,qal,qaa]
   rw [if_neg (by omega)]
   have hdeep:IntKind.wrap IntKind.i64 (((3-(h+1):Nat):Int)+1)=((3-h:Nat):Int):=by rw [wrap64 (by omega) (by omega)];omega
   have hrec:∀ a:Nat,a≤400-100*h→FOk l (Rec21 e (IntKind.wrap IntKind.i64 (((3-(h+1):Nat):Int)+1)) l a) a (fB h) (fA h):=fun a ha=>by
    rw [hdeep];exact ih (by omega) e (by omega) a ha
   have step:=fun (k:Nat) (hk:k<22)=>form_k l ((3-(h+1):Nat):Int) e ((3-(h+1):Nat):Int) l (a:Int) (fB h) (fA h) (by omega) (by omega) k hk (400-100*h) (by omega) (fun _=>hrec) a1 (by omega) 999999
   have fin:∀ o,FOk l o a1 (2*fB h+20) (2*fA h+2)→FOk l o a (fB (h+1)) (fA (h+1)):=fun o ho=>by
    obtain ⟨s,a',g1,g2,g3,g4⟩:=ho
    exact ⟨s,a',g1,by simp only [fB];omega,by omega,by simp only [fA];omega⟩
   have ht:Int.tmod (k:Int) 4=((k % 4:Nat):Int):=by rw [show (4:Int)=((4:Nat):Int) from rfl,←Int.ofNat_tmod]
   split
   ·rw [if_neg (by omega),ht,show IntKind.wrap IntKind.i64 (18+((k % 4:Nat):Int))=((18+k % 4:Nat):Int) by rw [wrap64 (by omega) (by omega)];omega]
    exact fin _ (step (18+k % 4) (by omega))
   ·exact fin _ (step k e1)
theorem formula_ok (l:List Int):∃ s:List UInt8,M6 l=some s∧s.length≤300:=by
 obtain ⟨s,a',e1,e2,e3,e4⟩:=form_h l 3 (by omega) 1000000 (by omega) 0 (by omega)
 refine ⟨s,?_,Nat.le_trans e2 (by decide)⟩
 show T6 Ops.std M21 l some=_
 unfold T6
 have e1':M21 0 l 0=some (s,l,(a':Int)):=e1
 rw [e1',ob_s]
theorem qe7 {l:List (List UInt8)} {n:Nat} (h:∀ y∈l,y.length≤n) (k:Nat):(l.getD k []).length≤n:=by
 rw [List.getD_eq_getElem?_getD]
 cases hk:l[k]? with
 | none=>simp
 | some x=>exact h x (List.mem_of_getElem? hk)
def eB:Nat→Nat
 | 0=>10
 | h+1=>2*eB h+10
theorem eB_le:∀ h,h≤4→eB h≤310∧fA h≤93:=by
 intro h hh
 match h with
 | 0 | 1 | 2 | 3 | 4=>decide
noncomputable abbrev nxt:=M50
theorem qa4 (l:List Int) (a:Nat) (ha:a≤1000) (n:Nat) (m:Int) (hm:m=(n:Nat)) (h0:0<n) (h1:n<1000):∃ (k a':Nat),k<n∧a≤a'∧a'≤a+1∧M50 m l (a:Nat)=some ((k:Int),l,(a':Int)):=by
 subst hm
 exact qcr l 0 a ha n h0 h1
theorem expr_k (l:List Int) (deep:Int) (d:Nat) (l0:List Int) (a0:Int) (B A:Nat) (hB:B≤310) (hA:A≤93) (k:Nat) (hk:k<20) (V:Nat) (hV:V≤900) (hrec:k<14→∀ a:Nat,a≤V→FOk l (Rec94 d (IntKind.wrap IntKind.i64 (deep+1)) l a) a B A) (a:Nat) (ha:a+A+5≤V) (n:Nat) :
  FOk l (R94 M50 (Rec94 d) deep l0 a0 (n+1) (.l1004 k l a)) a (2*B+10) (2*A+2):=by
 show FOk l (T94 Ops.std M50 (Rec94 d) deep l0 a0 _ some _) a _ _
 unfold T94
 simp only [qah,qal,qaj,qan,qaa,mt]
 by_cases h10:(k:Int)<10
 ·obtain ⟨s,a1,e1,e2,e3,e4⟩:=hrec (by omega) a (by omega)
  obtain ⟨s2,a2,f1,f2,f3,f4⟩:=hrec (by omega) a1 (by omega)
  rw [if_pos h10,e1,ob_s]
  dsimp only
  rw [f1,ob_s]
  dsimp only
  obtain ⟨j,a3,g1,g2,g3,g4⟩:=qa4 l a2 (by omega) 11 11 rfl (by omega) (by omega)
  rw [g4,ob_s]
  dsimp only
  rw [if_pos (by omega)]
  obtain ⟨i,a4,i1,i2,i3,i4⟩:=qa4 l a3 (by omega) 2 2 rfl (by omega) (by omega)
  rw [i4,ob_s]
  dsimp only
  have hlen:=qaq (n:=2) (l:=[[43],[45],[42],[60],[60,61],[61,61],[33,61],[38,38],[124,124],[62],[62,61]]) rfl (Int.toNat (j:Int))
  generalize ([[43],[45],[42],[60],[60,61],[61,61],[33,61],[38,38],[124,124],[62],[62,61]]:List (List UInt8)).getD (Int.toNat (j:Int)) []=x at hlen ⊢
  simp only [List.length_append,List.length_cons,List.length_nil]
  by_cases hi:(i:Int)=0
  ·rw [if_pos hi,if_pos (by omega),if_pos (by omega),if_pos (by omega),if_pos (by omega),if_pos (by omega),if_pos (by omega)]
   exact ⟨_,a4,rfl,by simp;omega,by omega,by omega⟩
  ·rw [if_neg hi,if_pos (by omega),if_pos (by omega),if_pos (by omega),if_pos (by omega),if_pos (by omega),if_pos (by omega)]
   exact ⟨_,a4,rfl,by simp;omega,by omega,by omega⟩
 ·rw [if_neg h10]
  by_cases h:(k:Int)=10
  ·obtain ⟨s,a1,e1,e2,e3,e4⟩:=hrec (by omega) a (by omega)
   rw [if_pos h,e1,ob_s]
   dsimp only
   simp only [List.length_append,List.length_cons,List.length_nil]
   rw [if_pos (by omega),if_pos (by omega)]
   exact ⟨_,a1,rfl,by simp;omega,by omega,by omega⟩
  ·rw [if_neg h]
   clear h
   by_cases h:(k:Int)=11
   ·obtain ⟨s,a1,e1,e2,e3,e4⟩:=hrec (by omega) a (by omega)
    rw [if_pos h,e1,ob_s]
    dsimp only
    simp only [List.length_append,List.length_cons,List.length_nil]
    rw [if_pos (by omega),if_pos (by omega)]
    exact ⟨_,a1,rfl,by simp;omega,by omega,by omega⟩
   ·rw [if_neg h]
    clear h
    by_cases h:(k:Int)=12
    ·obtain ⟨s,a1,e1,e2,e3,e4⟩:=hrec (by omega) a (by omega)
     obtain ⟨s2,a2,f1,f2,f3,f4⟩:=hrec (by omega) a1 (by omega)
     rw [if_pos h,e1,ob_s]
     dsimp only
     rw [if_pos (by omega),f1,ob_s]
     dsimp only
     simp only [List.length_append,List.length_cons,List.length_nil]
     rw [if_pos (by omega)]
     exact ⟨_,a2,rfl,by simp;omega,by omega,by omega⟩
    ·rw [if_neg h]
     clear h
     by_cases h:(k:Int)=13
     ·obtain ⟨s,a1,e1,e2,e3,e4⟩:=hrec (by omega) a (by omega)
      rw [if_pos h,e1,ob_s]
      dsimp only
      rw [if_pos (by omega)]
      exact ⟨_,a1,rfl,by simp;omega,by omega,by omega⟩
     ·rw [if_neg h]
      clear h hrec
      have hnum:FOk l (ob (M50 4 l a) fun y0=>if (0:Int)≤Prod.fst y0∧Prod.fst y0<(4:Int) then some (([[48],[49],[50],[48,48,55]]:List (List UInt8)).getD (Int.toNat (Prod.fst y0)) [],Prod.fst (Prod.snd y0),Prod.snd (Prod.snd y0)) else none) a (2*B+10) (2*A+2):=by
       obtain ⟨j,a3,g1,g2,g3,g4⟩:=qa4 l a (by omega) 4 4 rfl (by omega) (by omega)
       rw [g4,ob_s]
       dsimp only
       rw [if_pos (by omega)]
       have hlen:=qaq (n:=3) (l:=[[48],[49],[50],[48,48,55]]) rfl (Int.toNat (j:Int))
       exact ⟨_,a3,rfl,by omega,by omega,by omega⟩
      by_cases h:(k:Int)=14
      ·rw [if_pos h];exact hnum
      ·rw [if_neg h]
       clear h
       by_cases h:(k:Int)=15
       ·rw [if_pos h];exact hnum
       ·rw [if_neg h]
        clear h hnum
        by_cases h:(k:Int)=16
        ·rw [if_pos h]
         obtain ⟨j,a3,g1,g2,g3,g4⟩:=qa4 l a (by omega) 2 2 rfl (by omega) (by omega)
         obtain ⟨i,a4,i1,i2,i3,i4⟩:=qa4 l a3 (by omega) 3 3 rfl (by omega) (by omega)
         rw [g4,ob_s]
         dsimp only
         have hlen:=qaq (n:=1) (l:=[[112],[113],[114]]) rfl (Int.toNat (j:Int))
         have hlen2:=qaq (n:=1) (l:=[[97],[98],[99],[100]]) rfl (Int.toNat (i:Int))
         generalize ([[112],[113],[114]]:List (List UInt8)).getD (Int.toNat (j:Int)) []=x at hlen ⊢
         rw [if_pos (by omega),if_pos (by omega),i4,ob_s]
         dsimp only
         generalize ([[97],[98],[99],[100]]:List (List UInt8)).getD (Int.toNat (i:Int)) []=y at hlen2 ⊢
         simp only [List.length_append,List.length_cons,List.length_nil]
         rw [if_pos (by omega),if_pos (by omega)]
         exact ⟨_,a4,rfl,by simp;omega,by omega,by omega⟩
        ·rw [if_neg h]
         obtain ⟨j,a3,g1,g2,g3,g4⟩:=qa4 l a (by omega) 2 2 rfl (by omega) (by omega)
         rw [g4,ob_s]
         dsimp only
         rw [if_pos (by omega)]
         have hlen:=qaq (n:=1) (l:=[[120],[121],[122]]) rfl (Int.toNat (j:Int))
         exact ⟨_,a3,rfl,by omega,by omega,by omega⟩
theorem expr_h (l:List Int):∀ (h:Nat),h≤4→∀ (d:Nat),h<d→∀ (a:Nat),a≤800-150*h→FOk l (Rec94 d ((4-h:Nat):Int) l a) a (eB h) (fA h):=by
 intro h
 induction h with
 | zero=>
   intro hh d hd a ha
   obtain ⟨e,rfl⟩:∃ e,d=e+1:=⟨d-1,by omega⟩
   show FOk l (T94 Ops.std M50 (Rec94 e) ((4-0:Nat):Int) l a (R94 M50 (Rec94 e) ((4-0:Nat):Int) l a 1000000) some none) a _ _
   unfold T94
   obtain ⟨k,a1,e1,e2,e3,e4⟩:=qa4 l a (by omega) 20 20 rfl (by omega) (by omega)
   rw [e4,ob_s]
   simp only [qah,qal,qaa]
   rw [if_pos (by omega),if_neg (by omega)]
   have ht:Int.tmod (k:Int) 6=((k % 6:Nat):Int):=by rw [show (6:Int)=((6:Nat):Int) from rfl,←Int.ofNat_tmod]
   rw [ht,show IntKind.wrap IntKind.i64 (14+((k % 6:Nat):Int))=((14+k % 6:Nat):Int) by rw [wrap64 (by omega) (by omega)];omega]
   have:=expr_k l ((4-0:Nat):Int) e l (a:Int) 0 0 (by omega) (by omega) (14+k % 6) (by omega) 900 (by omega) (fun h=>by omega) a1 (by omega) 999999
   obtain ⟨s,a',g1,g2,g3,g4⟩:=this
   exact ⟨s,a',g1,by simp [eB];omega,by omega,by simp [fA];omega⟩
 | succ h ih=>
   intro hh d hd a ha
   obtain ⟨e,rfl⟩:∃ e,d=e+1:=⟨d-1,by omega⟩
   have hb:=eB_le h (by omega)
   have hb3:fA h≤45:=by
    have:h≤3:=by omega
    match h,this with
    | 0,_ | 1,_ | 2,_ | 3,_=>decide
   show FOk l (T94 Ops.std M50 (Rec94 e) ((4-(h+1):Nat):Int) l a (R94 M50 (Rec94 e) ((4-(h+1):Nat):Int) l a 1000000) some none) a _ _
   unfold T94
   obtain ⟨k,a1,e1,e2,e3,e4⟩:=qa4 l a (by omega) 20 20 rfl (by omega) (by omega)
   rw [e4,ob_s]
   simp only [qah,qal,qaa]
   rw [if_neg (by omega)]
   have hdeep:IntKind.wrap IntKind.i64 (((4-(h+1):Nat):Int)+1)=((4-h:Nat):Int):=by rw [wrap64 (by omega) (by omega)];omega
   have hrec:∀ a:Nat,a≤800-150*h→FOk l (Rec94 e (IntKind.wrap IntKind.i64 (((4-(h+1):Nat):Int)+1)) l a) a (eB h) (fA h):=fun a ha=>by
    rw [hdeep];exact ih (by omega) e (by omega) a ha
   have step:=fun (k:Nat) (hk:k<20)=>expr_k l ((4-(h+1):Nat):Int) e l (a:Int) (eB h) (fA h) (by omega) (by omega) k hk (800-150*h) (by omega) (fun _=>hrec) a1 (by omega) 999999
   have fin:∀ o,FOk l o a1 (2*eB h+10) (2*fA h+2)→FOk l o a (eB (h+1)) (fA (h+1)):=fun o ho=>by
    obtain ⟨s,a',g1,g2,g3,g4⟩:=ho
    exact ⟨s,a',g1,by simp only [eB];omega,by omega,by simp only [fA];omega⟩
   have ht:Int.tmod (k:Int) 6=((k % 6:Nat):Int):=by rw [show (6:Int)=((6:Nat):Int) from rfl,←Int.ofNat_tmod]
   split
   ·rw [if_neg (by omega),ht,show IntKind.wrap IntKind.i64 (14+((k % 6:Nat):Int))=((14+k % 6:Nat):Int) by rw [wrap64 (by omega) (by omega)];omega]
    exact fin _ (step (14+k % 6) (by omega))
   ·exact fin _ (step k e1)
theorem expr_ok (l:List Int) (h:Nat) (hh:h≤4) (m:Int) (hm:m=((4-h:Nat):Int)) (a:Nat) (ha:a≤200):FOk l (M94 m l a) a 310 93:=by
 subst hm
 have hb:=eB_le h hh
 obtain ⟨s,a',e1,e2,e3,e4⟩:=expr_h l h hh 1000000 (by omega) a (by omega)
 exact ⟨s,a',e1,by omega,e3,by omega⟩
theorem guard_ok (l:List Int) (a:Nat) (ha:a≤200):FOk l (M93 l a) a 10 2:=by
 show FOk l (T93 Ops.std M50 l a some) a _ _
 unfold T93
 simp only [qah,qal,qaj,qan,qaa,mt]
 obtain ⟨j,a1,g1,g2,g3,g4⟩:=qa4 l a (by omega) 2 2 rfl (by omega) (by omega)
 obtain ⟨i,a2,i1,i2,i3,i4⟩:=qa4 l a1 (by omega) 9 9 rfl (by omega) (by omega)
 rw [g4,ob_s]
 dsimp only
 have hlen:=qaq (n:=1) (l:=[[120],[121],[122]]) rfl (Int.toNat (j:Int))
 generalize ([[120],[121],[122]]:List (List UInt8)).getD (Int.toNat (j:Int)) []=x at hlen ⊢
 rw [if_pos (by omega),if_pos (by omega),if_pos (by omega),if_pos (by omega),if_pos (by omega),i4,ob_s]
 dsimp only
 rw [if_pos (by omega)]
 refine ⟨_,a2,rfl,qe7 (fun y hy=>?_) _,by omega,by omega⟩
 simp only [List.mem_cons,List.not_mem_nil,or_false] at hy
 rcases hy with rfl | rfl | rfl | rfl | rfl | rfl | rfl | rfl | rfl<;>(try simp)<;>omega
theorem small_ok (l:List Int) (a:Nat) (ha:a≤200):FOk l (M95 l a) a 10 3:=by
 show FOk l (T95 Ops.std M50 l a some) a _ _
 unfold T95
 simp only [qah,qal,qaj,qan,qaa,mt]
 obtain ⟨j,a1,g1,g2,g3,g4⟩:=qa4 l a (by omega) 2 2 rfl (by omega) (by omega)
 obtain ⟨i,a2,i1,i2,i3,i4⟩:=qa4 l a1 (by omega) 2 2 rfl (by omega) (by omega)
 obtain ⟨e,a3,e1,e2,e3,e4⟩:=qa4 l a2 (by omega) 8 8 rfl (by omega) (by omega)
 rw [g4,ob_s]
 dsimp only
 have hlen:=qaq (n:=1) (l:=[[120],[121],[122]]) rfl (Int.toNat (j:Int))
 have hlen2:=qaq (n:=1) (l:=[[120],[121],[122]]) rfl (Int.toNat (i:Int))
 generalize ([[120],[121],[122]]:List (List UInt8)).getD (Int.toNat (j:Int)) []=x at hlen ⊢
 rw [if_pos (by omega),if_pos (by omega),if_pos (by omega),if_pos (by omega),if_pos (by omega),i4,ob_s]
 dsimp only
 generalize ([[120],[121],[122]]:List (List UInt8)).getD (Int.toNat (i:Int)) []=x2 at hlen2 ⊢
 rw [if_pos (by omega),e4,ob_s]
 dsimp only
 rw [if_pos (by omega)]
 refine ⟨_,a3,rfl,qe7 (fun y hy=>?_) _,by omega,by omega⟩
 simp only [List.mem_cons,List.not_mem_nil,or_false] at hy
 rcases hy with rfl | rfl | rfl | rfl | rfl | rfl | rfl | rfl<;>(try simp)<;>omega
theorem qfv (l p0:List Int) (p1:Int) (k:Nat) (hk:k≤2):∀ (t i n:Nat) (s:List UInt8) (a:Nat),i+t=k→t<n→s.length≤340+20*i→a≤120+10*i→
  ∃ s',R58 M50 M93 M94 M95 p0 p1 n (.l0 s k i l a)=some s'∧s'.length≤400
 | t,i,0,s,a,hi,hn,hs,ha=>by omega
 | 0,i,n+1,s,a,hi,hn,hs,ha=>by
   show ∃ s',T58 Ops.std _ _ _ _ p0 p1 _ some _=some s'∧_
   unfold T58
   simp only [qah,qaa]
   rw [if_neg (by omega)]
   exact ⟨s,rfl,by omega⟩
 | t+1,i,n+1,s,a,hi,hn,hs,ha=>by
   have ih:=qfv l p0 p1 k hk t (i+1) n
   show ∃ s',T58 Ops.std _ _ _ _ p0 p1 _ some _=some s'∧_
   unfold T58
   have hw:IntKind.wrap IntKind.i64 ((i:Int)+1)=((i+1:Nat):Int):=qag (by omega)
   simp only [qah,qal,qaj,qan,qaa,mt,hw]
   obtain ⟨j,a1,g1,g2,g3,g4⟩:=qa4 l a (by omega) 2 2 rfl (by omega) (by omega)
   obtain ⟨w,a2,e1,e2,e3,e4⟩:=small_ok l a1 (by omega)
   obtain ⟨q,a3,q1,q2,q3,q4⟩:=qa4 l a2 (by omega) 6 6 rfl (by omega) (by omega)
   rw [if_pos (by omega),g4,ob_s]
   dsimp only
   have hlen:=qaq (n:=1) (l:=[[120],[121],[122]]) rfl (Int.toNat (j:Int))
   generalize ([[120],[121],[122]]:List (List UInt8)).getD (Int.toNat (j:Int)) []=x at hlen ⊢
   rw [if_pos (by omega),e1,ob_s]
   dsimp only
   rw [q4,ob_s]
   dsimp only
   by_cases h0:(q:Int)=0
   ·rw [if_pos h0]
    simp only [List.length_append,List.length_cons,List.length_nil]
    rw [if_pos (by omega),if_pos (by omega),if_pos (by omega),if_pos (by omega)]
    exact ih _ a3 (by omega) (by omega) (by simp;omega) (by omega)
   ·rw [if_neg h0]
    by_cases h1:(q:Int)=1
    ·rw [if_pos h1]
     simp only [List.length_append,List.length_cons,List.length_nil]
     rw [if_pos (by omega),if_pos (by omega),if_pos (by omega),if_pos (by omega)]
     exact ih _ a3 (by omega) (by omega) (by simp;omega) (by omega)
    ·rw [if_neg h1]
     obtain ⟨u,a4,u1,u2,u3,u4⟩:=qa4 l a3 (by omega) 2 2 rfl (by omega) (by omega)
     obtain ⟨v,a5,v1,v2,v3,v4⟩:=qa4 l a4 (by omega) 3 3 rfl (by omega) (by omega)
     have hlen2:=qaq (n:=1) (l:=[[120],[121],[122]]) rfl (Int.toNat (u:Int))
     simp only [List.length_append,List.length_cons,List.length_nil]
     rw [if_pos (by omega),if_pos (by omega),if_pos (by omega),if_pos (by omega),u4,ob_s]
     dsimp only
     generalize ([[120],[121],[122]]:List (List UInt8)).getD (Int.toNat (u:Int)) []=y at hlen2 ⊢
     rw [if_pos (by omega),if_pos (by omega),if_pos (by omega),v4,ob_s]
     dsimp only
     rw [if_pos (by omega),if_pos (by omega),if_pos (by omega),if_pos (by omega)]
     generalize hL:([_,_,_]:List (List UInt8))=L
     have hlen3:(L.getD (Int.toNat (v:Int)) []).length≤9:=qe7 (fun z hz=>by
      subst hL
      simp only [List.mem_cons,List.not_mem_nil,or_false] at hz
      rcases hz with rfl | rfl | rfl<;>simp<;>omega) _
     generalize L.getD (Int.toNat (v:Int)) []=z at hlen3 ⊢
     rw [if_pos (by omega)]
     exact ih _ a5 (by omega) (by omega) (by simp;omega) (by omega)
theorem Trans_okM (l:List Int) (N:Nat) (m:Int) (hm:m=(N:Nat)) (h0N:0<N) (h3N:N≤3):∃ s,M58 l m=some s∧s.length≤400:=by
 show ∃ s,T58 Ops.std M50 M93 M94 M95 l m (R58 M50 M93 M94 M95 l m 1000000) some none=some s∧_
 unfold T58
 simp only [qah,qal,qaj,qan,qaa,mt]
 obtain ⟨j,a1,g1,g2,g3,g4⟩:=qa4 l 0 (by omega) N m hm (by omega) (by omega)
 obtain ⟨q,a2,q1,q2,q3,q4⟩:=qa4 l a1 (by omega) 3 3 rfl (by omega) (by omega)
 obtain ⟨u,a3,u1,u2,u3,u4⟩:=qa4 l a2 (by omega) 3 3 rfl (by omega) (by omega)
 obtain ⟨v,a4,v1,v2,v3,v4⟩:=qa4 l a3 (by omega) 8 8 rfl (by omega) (by omega)
 obtain ⟨w,a5,e1,e2,e3,e4⟩:=guard_ok l a4 (by omega)
 obtain ⟨z,a6,z1,z2,z3,z4⟩:=qa4 l a5 (by omega) 9 9 rfl (by omega) (by omega)
 have g4':M50 m l 0=some ((j:Int),l,(a1:Int)):=g4
 have hl1:=qaq (n:=1) (l:=[[112],[113],[114]]) rfl (Int.toNat (j:Int))
 have hl2:=qaq (n:=1) (l:=[[97],[98],[99],[100]]) rfl (Int.toNat (q:Int))
 have hl3:=qaq (n:=1) (l:=[[97],[98],[99],[100]]) rfl (Int.toNat (u:Int))
 have hl4:=qaq (n:=2) (l:=[[45],[45],[45],[45],[99,33],[99,63],[100,33],[99,63]]) rfl (Int.toNat (v:Int))
 have fin:∀ (s:List UInt8) (a:Nat) (f:Nat),f<4→s.length≤340→a≤120→∃ s',R58 M50 M93 M94 M95 l m 1000000 (.l0 s (([0,1,1,2]:List Int).getD (Int.toNat (f:Int)) 0) 0 l a)=some s'∧s'.length≤400:=fun s a f hf hs ha=>by
  obtain ⟨k,hk,hk2⟩:∃ k:Nat,([0,1,1,2]:List Int).getD (Int.toNat (f:Int)) 0=(k:Int)∧k≤2:=by
   match f,hf with
   | 0,_=>exact ⟨0,rfl,by omega⟩
   | 1,_=>exact ⟨1,rfl,by omega⟩
   | 2,_=>exact ⟨1,rfl,by omega⟩
   | 3,_=>exact ⟨2,rfl,by omega⟩
  rw [hk]
  exact qfv l l m k hk2 k 0 1000000 s a (by omega) (by omega) (by omega) (by omega)
 rw [g4',ob_s]
 dsimp only
 generalize ([[112],[113],[114]]:List (List UInt8)).getD (Int.toNat (j:Int)) []=x1 at hl1 ⊢
 rw [if_pos (by omega),if_pos (by omega),q4,ob_s]
 dsimp only
 generalize ([[97],[98],[99],[100]]:List (List UInt8)).getD (Int.toNat (q:Int)) []=x2 at hl2 ⊢
 simp only [List.length_append,List.length_cons,List.length_nil]
 rw [if_pos (by omega),if_pos (by omega),if_pos (by omega),u4,ob_s]
 dsimp only
 generalize ([[97],[98],[99],[100]]:List (List UInt8)).getD (Int.toNat (u:Int)) []=x3 at hl3 ⊢
 rw [if_pos (by omega),if_pos (by omega),if_pos (by omega),v4,ob_s]
 dsimp only
 generalize ([[45],[45],[45],[45],[99,33],[99,63],[100,33],[99,63]]:List (List UInt8)).getD (Int.toNat (v:Int)) []=x4 at hl4 ⊢
 rw [if_pos (by omega),if_pos (by omega),if_pos (by omega),e1,ob_s]
 dsimp only
 rw [z4,ob_s]
 dsimp only
 by_cases h8:(z:Int)=8
 ·obtain ⟨y,a7,y1,y2,y3,y4⟩:=expr_ok l 2 (by omega) 2 rfl a6 (by omega)
  obtain ⟨f,a8,f1,f2,f3,f4⟩:=qa4 l a7 (by omega) 4 4 rfl (by omega) (by omega)
  rw [if_pos h8,y1,ob_s]
  dsimp only
  rw [if_pos (by omega),f4,ob_s]
  dsimp only
  rw [if_pos (by omega)]
  exact fin _ a8 f f1 (by simp;omega) (by omega)
 ·obtain ⟨f,a8,f1,f2,f3,f4⟩:=qa4 l a6 (by omega) 4 4 rfl (by omega) (by omega)
  rw [if_neg h8,if_pos (by omega),f4,ob_s]
  dsimp only
  rw [if_pos (by omega)]
  exact fin _ a8 f f1 (by simp;omega) (by omega)
theorem wrapu64 {n:Int} (h1:0≤n) (h2:n≤18446744073709551615):IntKind.wrap IntKind.u64 n=n:=by
 simp [IntKind.wrap,IntKind.bits,IntKind.signed];omega
theorem plainly_d:∀ (d n:Nat),n<10 ^ d→d≤5→0<d→∀ f,d≤f→∃ s,Rec105 f (n:Int)=some s∧0<s.length∧s.length≤d
 | 0,n,hn,hd,h0,f,hf=>by omega
 | d+1,n,hn,hd,h0,f,hf=>by
   obtain ⟨e,rfl⟩:∃ e,f=e+1:=⟨f-1,by omega⟩
   have hp:10 ^ (d+1)=10*10 ^ d:=by rw [Nat.pow_succ];omega
   have hle:10 ^ (d+1)≤10 ^ 5:=Nat.pow_le_pow_right (by omega) hd
   have h5:(10:Nat) ^ 5=100000:=rfl
   show ∃ s,T105 Ops.std (Rec105 e) (n:Int) some=some s∧_
   unfold T105
   have hm:Int.tmod (n:Int) 10=((n % 10:Nat):Int):=by simp [Int.tmod_eq_emod_of_nonneg]
   have hq:Int.tdiv (n:Int) 10=((n / 10:Nat):Int):=by simp [Int.tdiv_eq_ediv_of_nonneg]
   have hlt:n % 10<10:=Nat.mod_lt _ (by omega)
   have hql:n / 10<10 ^ d:=by omega
   simp only [qal,qaj,qas,qah,qan,qaa,hm,hq,wrapu64 (show 0≤((n % 10:Nat):Int)+1 by omega) (by omega),wrapu64 (show 0≤((n / 10:Nat):Int) by omega) (by omega)]
   have h1:(0:Int)≤((n % 10:Nat):Int):=by omega
   have h2:((n % 10:Nat):Int)≤((n % 10:Nat):Int)+1:=by omega
   rw [if_neg (by omega),if_neg (by omega),if_pos (by omega)]
   simp only [h1,h2,decide_true,cond_true,if_true]
   have ht:(((n % 10:Nat):Int)+1).toNat=n % 10+1:=by omega
   rw [ht,qaf]
   have hl:(List.drop (n % 10) (List.take (n % 10+1) ([48,49,50,51,52,53,54,55,56,57]:List UInt8))).length=1:=by simp;omega
   generalize List.drop (n % 10) (List.take (n % 10+1) ([48,49,50,51,52,53,54,55,56,57]:List UInt8))=w at hl
   by_cases h10:(n:Int)<10
   ·rw [if_pos h10]
    exact ⟨w,rfl,by omega,by omega⟩
   ·rw [if_neg h10,if_neg (by omega)]
    have hd0:0<d:=by
     rcases Nat.eq_zero_or_pos d with h | h
     ·subst h;simp at hql;omega
     ·exact h
    obtain ⟨s,hs,hs0,hsl⟩:=plainly_d d (n / 10) hql (by omega) hd0 e (by omega)
    rw [hs,ob_s,if_pos (by omega)]
    exact ⟨_,rfl,by simp;omega,by simp;omega⟩
theorem qdt (n:Nat) (hn:n<100000):∃ s,M75 (n:Int)=some s∧s.length≤5:=by
 obtain ⟨s,h1,h2,h3⟩:=plainly_d 5 n (by omega) (by omega) (by omega) 1000000 (by omega)
 refine ⟨s,?_,h3⟩
 show T75 Ops.std M105 (n:Int) some=_
 unfold T75
 simp only [qah,qaa]
 rw [if_neg (by omega),wrapu64 (by omega) (by omega)]
 have h1':M105 (n:Int)=some s:=h1
 rw [h1',ob_s]
theorem Decimal_ok (n:Nat) (hn:n<100000):∃ s,M57 (n:Int)=some s∧s.length≤5:=by
 obtain ⟨s,h1,h2⟩:=qdt n hn
 refine ⟨s,?_,h2⟩
 show T57 Ops.std M75 (n:Int) some=_
 unfold T57
 rw [h1,ob_s]
noncomputable abbrev txR (p0 p1:Int) (p2:List (List Int)):=R24 M22 M57 M58 p0 p1 p2
section
variable (p0 p1:Int) (p2:List (List Int))
theorem text_l2 (N:Nat) (h0N:0<N) (h3N:N≤3):∀ (t i n:Nat) (s:List UInt8),i+t=10→t<n→s.length≤500+420*i→∃ s',txR p0 p1 p2 n (.l2 s (N:Nat) i)=some s'∧s'.length≤5000
 | t,i,0,s,hi,hn,hs=>by omega
 | 0,i,n+1,s,hi,hn,hs=>by
   show ∃ s',T24 Ops.std _ _ _ p0 p1 p2 _ some _=some s'∧_
   unfold T24
   simp only [qah,qaa]
   by_cases h:(i:Int)<(p2.length:Int)
   ·rw [if_pos h,if_neg (by omega)];exact ⟨s,rfl,by omega⟩
   ·rw [if_neg h];exact ⟨s,rfl,by omega⟩
 | t+1,i,n+1,s,hi,hn,hs=>by
   have ih:=text_l2 N h0N h3N t (i+1) n
   show ∃ s',T24 Ops.std _ _ _ p0 p1 p2 _ some _=some s'∧_
   unfold T24
   have hw:IntKind.wrap IntKind.i64 (IntKind.wrap IntKind.i64 (3*(i:Int))+1)=((3*i+1:Nat):Int):=by rw [wrap64 (n:=3*(i:Int)) (by omega) (by omega),wrap64 (by omega) (by omega)];omega
   simp only [qah,qaj,qan,qaa,qaf,hw]
   by_cases h:(i:Int)<(p2.length:Int)
   ·rw [if_pos h,if_pos (by omega),if_pos (by omega),if_pos (by omega)]
    obtain ⟨w,h1,h2⟩:=Decimal_ok (3*i+1) (by omega)
    obtain ⟨u,h3,h4⟩:=Trans_okM (p2.getD i (Ty.dflt ty22)) N (N:Nat) rfl h0N h3N
    rw [h1,ob_s]
    simp only [List.length_append,List.length_cons,List.length_nil]
    rw [if_pos (by omega),if_pos (by omega),h3,ob_s,if_pos (by omega),if_pos (by omega),show IntKind.wrap IntKind.i64 ((i:Int)+1)=((i+1:Nat):Int) from qag (by omega)]
    exact ih _ (by omega) (by omega) (by simp;omega)
   ·rw [if_neg h];exact ⟨s,rfl,by omega⟩
theorem text_l1 (N:Nat) (h0N:0<N) (h3N:N≤3):∀ (t i n:Nat) (s:List UInt8),i+t=N→t+20<n→s.length≤200+30*i→∃ s',txR p0 p1 p2 n (.l1 s (N:Nat) i)=some s'∧s'.length≤5000
 | t,i,0,s,hi,hn,hs=>by omega
 | 0,i,n+1,s,hi,hn,hs=>by
   show ∃ s',T24 Ops.std _ _ _ p0 p1 p2 _ some _=some s'∧_
   unfold T24
   simp only [qah,qaa]
   rw [if_neg (by omega)]
   exact text_l2 p0 p1 p2 N h0N h3N 10 0 n s (by omega) (by omega) (by omega)
 | t+1,i,n+1,s,hi,hn,hs=>by
   have ih:=text_l1 N h0N h3N t (i+1) n
   show ∃ s',T24 Ops.std _ _ _ p0 p1 p2 _ some _=some s'∧_
   unfold T24
   have hw:IntKind.wrap IntKind.i64 (2+(i:Int))=((i+2:Nat):Int):=by rw [wrap64 (by omega) (by omega)];omega
   simp only [qah,qaj,qan,qal,qaa,hw,mt]
   obtain ⟨k,hk,h1⟩:=pickN (IntKind.wrap IntKind.i64 (Int.tdiv p0 ((i+2:Nat):Int))) 3 (by omega) (by omega)
   have h1':M22 (IntKind.wrap IntKind.i64 (Int.tdiv p0 ((i+2:Nat):Int))) 3=some (k:Int):=h1
   have hl:=qaq (n:=1) (l:=[[112],[113],[114]]) rfl (Int.toNat (i:Int))
   generalize ([[112],[113],[114]]:List (List UInt8)).getD (Int.toNat (i:Int)) []=x at hl ⊢
   simp only [List.length_append,List.length_cons,List.length_nil]
   rw [if_pos (by omega),if_pos (by omega),if_pos (by omega),if_pos (by omega),if_pos (by omega),if_neg (by omega),h1',ob_s,show IntKind.wrap IntKind.i64 ((i:Int)+1)=((i+1:Nat):Int) from qag (by omega)]
   by_cases hk0:(k:Int)=0
   ·rw [if_pos hk0,if_pos (by omega),if_pos (by omega)]
    exact ih _ (by omega) (by omega) (by simp;omega)
   ·rw [if_neg hk0,if_pos (by omega)]
    exact ih _ (by omega) (by omega) (by simp;omega)
theorem text_l0 (V:Nat) (hV:V≤3) (h0V:2≤V) (hp:IntKind.wrap IntKind.i64 (2+(((V-2:Nat):Nat):Int))=(V:Int)) (hy:M22 p1 2=some ((V-2:Nat):Int)):∀ (t i n:Nat) (s:List UInt8),i+t=V→t+60<n→s.length≤30*i→∃ s',txR p0 p1 p2 n (.l0 s i)=some s'∧s'.length≤5000
 | t,i,0,s,hi,hn,hs=>by omega
 | 0,i,n+1,s,hi,hn,hs=>by
   show ∃ s',T24 Ops.std _ _ _ p0 p1 p2 _ some _=some s'∧_
   unfold T24
   rw [hy]
   simp only [qah,qal,qaa,ob_s,hp]
   obtain ⟨k,hk,h1⟩:=pickN p0 4 (by omega) (by omega)
   have h1':M22 p0 4=some (k:Int):=h1
   rw [if_neg (by omega),h1',ob_s,if_neg (by decide)]
   have hq:Int.tdiv (k:Int) 3=((k / 3:Nat):Int):=by simp [Int.tdiv_eq_ediv_of_nonneg]
   rw [hq,wrap64 (n:=((k / 3:Nat):Int)) (by omega) (by omega),show IntKind.wrap IntKind.i64 (2+((k / 3:Nat):Int))=((k / 3+2:Nat):Int) by rw [wrap64 (by omega) (by omega)];omega]
   exact text_l1 p0 p1 p2 (k / 3+2) (by omega) (by omega) (k / 3+2) 0 n s (by omega) (by omega) (by omega)
 | t+1,i,n+1,s,hi,hn,hs=>by
   have ih:=text_l0 V hV h0V hp hy t (i+1) n
   show ∃ s',T24 Ops.std _ _ _ p0 p1 p2 _ some _=some s'∧_
   unfold T24
   rw [hy]
   have hw2:IntKind.wrap IntKind.i64 (2+(i:Int))=((i+2:Nat):Int):=by rw [wrap64 (by omega) (by omega)];omega
   have hw5:IntKind.wrap IntKind.i64 (5+(i:Int))=((i+5:Nat):Int):=by rw [wrap64 (by omega) (by omega)];omega
   simp only [qah,qaj,qan,qal,qaa,ob_s,hp,hw2,hw5,mt]
   obtain ⟨k1,hk1,e1⟩:=pickN (IntKind.wrap IntKind.i64 (Int.tdiv p1 7)) 2 (by omega) (by omega)
   obtain ⟨k2,hk2,e2⟩:=pickN (IntKind.wrap IntKind.i64 (Int.tdiv p1 ((i+2:Nat):Int))) 3 (by omega) (by omega)
   obtain ⟨k3,hk3,e3⟩:=pickN (IntKind.wrap IntKind.i64 (Int.tdiv p1 ((i+5:Nat):Int))) 2 (by omega) (by omega)
   have e1':M22 (IntKind.wrap IntKind.i64 (Int.tdiv p1 7)) 2=some (k1:Int):=e1
   have e2':M22 (IntKind.wrap IntKind.i64 (Int.tdiv p1 ((i+2:Nat):Int))) 3=some (k2:Int):=e2
   have e3':M22 (IntKind.wrap IntKind.i64 (Int.tdiv p1 ((i+5:Nat):Int))) 2=some (k3:Int):=e3
   have hl:=qaq (n:=1) (l:=[[120],[121],[122]]) rfl (Int.toNat (i:Int))
   generalize ([[120],[121],[122]]:List (List UInt8)).getD (Int.toNat (i:Int)) []=x at hl ⊢
   simp only [List.length_append,List.length_cons,List.length_nil]
   rw [if_pos (by omega),if_pos (by omega),if_pos (by omega),if_pos (by omega),if_pos (by omega),if_neg (by omega),if_neg (by omega),if_neg (by omega),e1',ob_s,if_pos (by omega)]
   have hl1:=qaq (n:=2) (l:=[[48],[45,49]]) rfl (Int.toNat (k1:Int))
   generalize ([[48],[45,49]]:List (List UInt8)).getD (Int.toNat (k1:Int)) []=x1 at hl1 ⊢
   rw [if_pos (by omega),if_pos (by omega),e2',ob_s,if_pos (by omega)]
   have hl2:=qaq (n:=1) (l:=[[49],[50],[51]]) rfl (Int.toNat (k2:Int))
   generalize ([[49],[50],[51]]:List (List UInt8)).getD (Int.toNat (k2:Int)) []=x2 at hl2 ⊢
   rw [if_pos (by omega),if_pos (by omega),e3',ob_s,if_pos (by omega)]
   have hl3:=qaq (n:=1) (l:=[[48],[49]]) rfl (Int.toNat (k3:Int))
   generalize ([[48],[49]]:List (List UInt8)).getD (Int.toNat (k3:Int)) []=x3 at hl3 ⊢
   rw [if_pos (by omega),if_pos (by omega),show IntKind.wrap IntKind.i64 ((i:Int)+1)=((i+1:Nat):Int) from qag (by omega)]
   exact ih _ (by omega) (by omega) (by simp;omega)
theorem Text_ok:∃ s,M24 p0 p1 p2=some s∧s.length≤5000:=by
 show ∃ s,T24 Ops.std M22 M57 M58 p0 p1 p2 (txR p0 p1 p2 1000000) some none=some s∧_
 unfold T24
 obtain ⟨k,hk,h1⟩:=pickN p1 2 (by omega) (by omega)
 have h1':M22 p1 2=some (((k+2)-2:Nat):Int):=h1
 exact text_l0 p0 p1 p2 (k+2) (by omega) (by omega) (by rw [wrap64 (by omega) (by omega)];omega) h1' (k+2) 0 1000000 [] (by omega) (by omega) (by simp)
end
def okL (L:Nat) (l:List (List UInt8)):Prop:=∀ w∈l,w.length≤L
theorem okL.app {L:Nat} {l:List (List UInt8)} {w:List UInt8} (h:okL L l) (hw:w.length≤L):okL L (l++[w]):=fun x hx=>by
 rcases List.mem_append.1 hx with hx | hx
 ·exact h x hx
 ·simp only [List.mem_singleton] at hx;rw [hx];exact hw
theorem okL.get {L:Nat} {l:List (List UInt8)} (h:okL L l) (k:Nat):(l.getD k []).length≤L:=by
 rw [List.getD_eq_getElem?_getD]
 by_cases hk:k<l.length
 ·rw [List.getElem?_eq_getElem hk];exact h _ (List.getElem_mem hk)
 ·rw [List.getElem?_eq_none (by omega)];simp
noncomputable abbrev cutR (s:List UInt8) (c:Int):=R51 s c
theorem cut_loop (s:List UInt8) (hs:s.length≤60000) (c:Int):∀ (t i n fr:Nat) (out:List (List UInt8)),i+t=s.length→t<n→fr≤i→out.length≤i→okL s.length out→∃ l,cutR s c n (.l0 fr i out)=some l∧0<l.length∧l.length≤s.length+1∧okL s.length l
 | t,i,0,fr,out,hi,hn,hf,ho,hk=>by omega
 | 0,i,n+1,fr,out,hi,hn,hf,ho,hk=>by
   show ∃ l,T51 Ops.std s c _ some _=some l∧_
   unfold T51
   simp only [qah,qaj,qan,qaa,qaf,mt,List.length_cons,List.length_nil]
   rw [if_neg (by omega),if_pos (by omega),if_pos (by omega)]
   exact ⟨_,rfl,by simp,by simp;omega,hk.app (by simp)⟩
 | t+1,i,n+1,fr,out,hi,hn,hf,ho,hk=>by
   have ih:=cut_loop s hs c t (i+1) n
   show ∃ l,T51 Ops.std s c _ some _=some l∧_
   unfold T51
   have hw:IntKind.wrap IntKind.i64 ((i:Int)+1)=((i+1:Nat):Int):=qag (by omega)
   have h1:(0:Int)≤(fr:Int):=by omega
   have h2:(fr:Int)≤(i:Int):=by omega
   simp only [qah,qaj,qan,qas,qal,qaa,qaf,mt,List.length_cons,List.length_nil,hw,h1,h2,decide_true,cond_true,if_true]
   rw [if_pos (by omega),if_pos (by omega)]
   split
   ·rw [if_pos (by omega),if_pos (by omega)]
    exact ih (i+1) _ (by omega) (by omega) (by omega) (by simp;omega) (hk.app (by simp;omega))
   ·exact ih fr out (by omega) (by omega) (by omega) (by omega) hk
theorem cut_ok (s:List UInt8) (hs:s.length≤60000) (c:Int):∃ l,M51 s c=some l∧0<l.length∧l.length≤s.length+1∧okL s.length l:=by
 show ∃ l,T51 Ops.std s c (cutR s c 1000000) some none=some l∧_
 unfold T51
 exact cut_loop s hs c s.length 0 1000000 0 [] (by omega) (by omega) (by omega) (by simp) (fun w h=>by cases h)
theorem qfw (p:List UInt8) (L:Nat) (l:List (List UInt8)) (hl:l.length≤100000) (hL:okL L l):∀ (t i n:Nat) (out:List (List UInt8)),i+t=l.length→t<n→out.length≤i→okL L out→∃ r,R52 M51 p n (.l0 i out l)=some r∧r.length≤l.length∧okL L r
 | t,i,0,out,hi,hn,ho,hk=>by omega
 | 0,i,n+1,out,hi,hn,ho,hk=>by
   show ∃ r,T52 Ops.std _ p _ some _=some r∧_
   unfold T52
   simp only [qah,qaa]
   rw [if_neg (by omega)]
   exact ⟨out,rfl,by omega,hk⟩
 | t+1,i,n+1,out,hi,hn,ho,hk=>by
   have ih:=qfw p L l hl hL t (i+1) n
   show ∃ r,T52 Ops.std _ p _ some _=some r∧_
   unfold T52
   have hw:IntKind.wrap IntKind.i64 ((i:Int)+1)=((i+1:Nat):Int):=qag (by omega)
   simp only [qah,qaj,qan,qaa,qaf,mt,List.length_cons,List.length_nil,hw]
   rw [if_pos (by omega),if_pos (by omega)]
   cases hb:!(l.getD i (Ty.dflt ty9) == ([]:List UInt8)) with
   | false=>simp only [cond_false];exact ih out (by omega) (by omega) (by omega) hk
   | true=>
     simp only [cond_true]
     rw [if_pos (by omega),if_pos (by omega)]
     exact ih _ (by omega) (by omega) (by simp;omega) (hk.app (hL.get i))
theorem words_ok (s:List UInt8) (hs:s.length≤60000):∃ l,M52 s=some l∧l.length≤s.length+1∧okL s.length l:=by
 obtain ⟨l,h1,h2,h3,h4⟩:=cut_ok s hs 32
 show ∃ l,T52 Ops.std M51 s (R52 M51 s 1000000) some none=some l∧_
 unfold T52
 rw [h1,ob_s]
 obtain ⟨r,r1,r2,r3⟩:=qfw s s.length l (by omega) h4 l.length 0 1000000 [] (by omega) (by omega) (by simp) (fun w h=>by cases h)
 exact ⟨r,r1,by omega,r3⟩
theorem skip_all (p0:List UInt8) (p1:Int):∀ n:Nat,(∀ (s:List UInt8) (k:Nat),k≤1000→s.length+3*k+1≤n→∃ s',R55 p0 p1 n (.l0 s (k:Nat))=some s'∧s'.length≤s.length)∧
  (∀ (s:List UInt8) (k:Nat),k≤1000→1≤k→s.length+3*k≤n→∃ s',R55 p0 p1 n (.l1 s (k:Nat))=some s'∧s'.length≤s.length)∧
  (∀ (s:List UInt8) (k:Nat),k≤1000→1≤k→s.length+3*k≤n+1→∃ s',R55 p0 p1 n (.l2 s (k:Nat))=some s'∧s'.length≤s.length)
 | 0=>⟨fun s k h0 h=>by omega,fun s k h0 h1 h=>by omega,fun s k h0 h1 h=>by omega⟩
 | n+1=>by
   obtain ⟨ia,ib,ic⟩:=skip_all p0 p1 n
   refine ⟨fun s k h0 h=>?_,fun s k h0 h1 h=>?_,fun s k h0 h1 h=>?_⟩
   ·show ∃ s',T55 Ops.std p0 p1 _ some _=some s'∧_
    unfold T55
    simp only [qah,qaa]
    by_cases hk:0<k
    ·rw [if_pos (by omega)];exact ib s k h0 (by omega) (by omega)
    ·rw [if_neg (by omega)];exact ⟨s,rfl,by omega⟩
   ·show ∃ s',T55 Ops.std p0 p1 _ some _=some s'∧_
    unfold T55
    simp only [qah,qaj,qal,qaa,List.take_length]
    by_cases hs:0<s.length
    ·rw [if_pos (by omega),if_pos (by omega)]
     split
     ·rw [if_pos (by omega)]
      obtain ⟨s',e1,e2⟩:=ib (s.drop (Int.toNat 1)) k h0 h1 (by simp;omega)
      exact ⟨s',e1,by simp at e2;omega⟩
     ·exact ic s k h0 h1 (by omega)
    ·rw [if_neg (by omega)];exact ic s k h0 h1 (by omega)
   ·show ∃ s',T55 Ops.std p0 p1 _ some _=some s'∧_
    unfold T55
    have hw:IntKind.wrap IntKind.i64 ((k:Int)-1)=((k-1:Nat):Int):=by rw [wrap64 (by omega) (by omega)];omega
    simp only [qah,qaj,qal,qaw,qaa,List.take_length,hw]
    by_cases hs:0<s.length
    ·rw [if_pos (by omega),if_pos (by omega)]
     split
     ·rw [if_pos (by omega)]
      obtain ⟨s',e1,e2⟩:=ic (s.drop (Int.toNat 1)) k h0 h1 (by simp;omega)
      exact ⟨s',e1,by simp at e2;omega⟩
     ·exact ia s (k-1) (by omega) (by omega)
    ·rw [if_neg (by omega)];exact ia s (k-1) (by omega) (by omega)
theorem skip_ok (s:List UInt8) (hs:s.length≤60000) (k:Nat) (hk:k≤10):∃ s',M55 s (k:Nat)=some s'∧s'.length≤s.length:=by
 show ∃ s',T55 Ops.std s (k:Nat) (R55 s (k:Nat) 1000000) some none=some s'∧_
 unfold T55
 exact (skip_all s (k:Nat) 1000000).1 s k (by omega) (by omega)
theorem qcs (s:List UInt8) (b:Bool) (d:Nat):∀ (t i n:Nat) (v:Int),i+t=4→t<n→∃ r,R85 (Rec85 d) M45 s b n (.l0 v i)=some r
 | t,i,0,v,hi,hn=>by omega
 | t,i,n+1,v,hi,hn=>by
   have ih:=fun (h:0<t)=>qcs s b d (t-1) (i+1) n
   show ∃ r,T85 Ops.std _ _ s b _ some _=some r
   unfold T85
   have hw:IntKind.wrap IntKind.i64 ((i:Int)+1)=((i+1:Nat):Int):=qag (by omega)
   simp only [qah,qaj,qaa,qaf,qbh,ob_s,hw]
   by_cases h:(i:Int)<(s.length:Int)
   ·rw [if_pos h,if_pos (by omega)]
    cases !digitP' (s.getD i 0) with
    | true=>exact ⟨_,rfl⟩
    | false=>
      simp only [cond_false]
      rw [if_pos (by omega)]
      by_cases h2:(2:Int)<(i:Int)
      ·rw [if_pos h2];exact ⟨_,rfl⟩
      ·rw [if_neg h2];exact ih (by omega) _ (by omega) (by omega)
   ·rw [if_neg h];exact ⟨_,rfl⟩
theorem amount_f (s:List UInt8) (d:Nat):∃ r,Rec85 (d+1) s false=some r:=by
 show ∃ r,T85 Ops.std (Rec85 d) M45 s false (R85 (Rec85 d) M45 s false 1000000) some none=some r
 unfold T85
 exact qcs s false d 4 0 1000000 0 (by omega) (by omega)
theorem qc7 (s:List UInt8) (b:Bool):∃ n ok,M85 s b=some (n,ok):=by
 have key:∃ r,Rec85 (999998+1+1) s b=some r:=by
  cases b with
  | false=>exact amount_f s _
  | true=>
    show ∃ r,T85 Ops.std (Rec85 (999998+1)) M45 s true (R85 (Rec85 (999998+1)) M45 s true 1000000) some none=some r
    have hz:=qcs s true (999998+1) 4 0 1000000 0 (by omega) (by omega)
    unfold T85
    simp only [qah,qaj,qal,qaa,cond_true]
    by_cases h:(1:Int)<(s.length:Int)
    ·rw [if_pos h,if_pos (by omega)]
     split
     ·rw [if_pos (by omega)]
      obtain ⟨r,hr⟩:=amount_f ((s.take s.length).drop (Int.toNat 1)) 999998
      rw [hr]
      exact ⟨_,rfl⟩
     ·exact hz
    ·rw [if_neg h];exact hz
 obtain ⟨⟨n,ok⟩,h⟩:=key
 exact ⟨n,ok,h⟩
theorem parseVar_ok (w:List (List UInt8)) (L:Nat) (hw:okL L w):∃ nm lo hi ini ok,M53 w=some (nm,lo,hi,ini,ok)∧nm.length≤L:=by
 show ∃ nm lo hi ini ok,T53 Ops.std M85 w some=some (nm,lo,hi,ini,ok)∧_
 unfold T53
 simp only [qal,qaj,qaw,qaa,mt]
 by_cases h:((w.length:Nat):Int)=4
 ·rw [if_neg (by simp [h]),if_pos (by omega)]
  obtain ⟨n1,o1,e1⟩:=qc7 (w.getD (Int.toNat 1) (Ty.dflt ty9)) true
  obtain ⟨n2,o2,e2⟩:=qc7 (w.getD (Int.toNat 2) (Ty.dflt ty9)) true
  obtain ⟨n3,o3,e3⟩:=qc7 (w.getD (Int.toNat 3) (Ty.dflt ty9)) true
  rw [e1,ob_s,if_pos (by omega),e2,ob_s,if_pos (by omega),e3,ob_s,if_pos (by omega)]
  have hg:=hw.get (Int.toNat 0)
  cases o1<;>cases o2<;>exact ⟨_,_,_,_,_,rfl,hg⟩
 ·rw [if_pos h]
  exact ⟨_,_,_,_,_,rfl,by simp⟩
theorem qdu (s:List UInt8) (hs:s.length<900000):∃ c ok,M86 s=some (c,ok):=by
 show ∃ c ok,T86 Ops.std M62 s some=some (c,ok)
 unfold T86
 cases hb:s == mt UInt8 with
 | true=>exact ⟨_,_,rfl⟩
 | false=>
   have h0:0<s.length:=by
    cases s with
    | nil=>cases hb
    | cons a b=>simp
   have hw:IntKind.wrap IntKind.i64 ((s.length:Int)-1)=((s.length-1:Nat):Int):=by rw [wrap64 (by omega) (by omega)];omega
   simp only [qaj,qaa,cond_false,hw,qaf]
   rw [if_pos (by omega),if_pos (by omega),qa2 _ (by simp;omega),ob_s]
   generalize isWordP _=b
   generalize (List.drop (s.length-1) (List.take s.length s) == [33])=b2
   cases b<;>cases b2<;>exact ⟨_,_,rfl⟩
theorem id_ok (n:Int):M120 n=some (decide (1≤n∧n≤999)):=by
 show T120 Ops.std n some=_
 unfold T120
 simp only [qas,qaa]
 by_cases h:1≤n
 ·rw [if_pos h];simp [h]
 ·rw [if_neg h];simp [h]
theorem w999_ok (n:Int):M90 n=some (decide (-999≤n∧n≤999)):=by
 show T90 Ops.std n some=_
 unfold T90
 simp only [qas,qaa]
 by_cases h:-999≤n
 ·rw [if_pos h];simp [h]
 ·rw [if_neg h];simp [h]
def shortE (f:List Trm):Prop:=f.length≤30∧∀ t∈f,t.2.2.1.length≤8∧t.2.2.2.length≤8
theorem qbq:shortE []:=⟨by simp,fun t h=>by cases h⟩
theorem shortE.of {f:List Trm} (h:rightE f=true):shortE f:=qcb h
theorem shortE.small {f:List Trm} (h:shortE f):smallE f:=⟨by have:=h.1;omega,fun t ht=>by have:=h.2 t ht;omega⟩
theorem shortE.rtR {f:List Trm} (h:shortE f):M28 f=some (rightE f):=qdp f h.small (by have:=h.1;omega)
theorem parse7_ok (s:List UInt8):∃ e x f,M87 s=some (e,x,f)∧shortE f∧(e=0→rightE f=true):=by
 show ∃ e x f,T87 Ops.std M18 M84 s some=some (e,x,f)∧_
 unfold T87
 rw [lex_ref,ob_s]
 rcases hl:lexS s with ⟨e,x,l⟩
 simp only [qal,qaj,qaw,qaa,mt]
 by_cases he:e=0
 ·subst he
  obtain ⟨h1,h2,h3⟩:=lexS_ok hl
  rw [if_neg (by simp)]
  have hln:=toks_len h1
  obtain ⟨k,e2,y,t1,t2,t3⟩:=take_ok h1 (by omega) 0 hln
  have t1':M84 l 0=some ((k:Int),e2,y):=t1
  rw [t1',ob_s]
  dsimp only
  rcases t3 with ⟨rfl,_,hr,_⟩ | ⟨rfl,rfl⟩ | ⟨rfl,rfl,_⟩
  ·rw [if_neg (by simp),if_pos (by omega)]
   split
   ·rw [if_pos (by omega)]
    exact ⟨_,_,_,rfl,qbq,fun h=>by cases h⟩
   ·exact ⟨_,_,_,rfl,shortE.of hr,fun _=>hr⟩
  ·rw [if_pos (by decide),if_pos (by omega)]
   exact ⟨_,_,_,rfl,qbq,fun h=>by cases h⟩
  ·rw [if_pos (by decide),if_pos (by omega)]
   exact ⟨_,_,_,rfl,qbq,fun h=>by cases h⟩
 ·rw [if_pos he]
  exact ⟨_,_,_,rfl,qbq,fun h=>absurd h he⟩
abbrev Eff:=List UInt8×List Trm
def okEf (x:Eff):Prop:=x.1.length≤8∧rightE x.2=true
theorem qd4 (p:List (List UInt8)) (hp:p.length≤100000):∀ (t i n:Nat) (out:List Eff),i+t=p.length→t<n→out.length≤i→(∀ x∈out,okEf x)→
  ∃ b o,R88 M18 M84 p n (.l0 i out)=some (b,o)∧o.length≤p.length∧∀ x∈o,okEf x
 | t,i,0,out,hi,hn,ho,hk=>by omega
 | 0,i,n+1,out,hi,hn,ho,hk=>by
   show ∃ b o,T88 Ops.std _ _ p _ some _=some (b,o)∧_
   unfold T88
   simp only [qah,qaa]
   rw [if_neg (by omega)]
   exact ⟨_,_,rfl,by omega,hk⟩
 | t+1,i,n+1,out,hi,hn,ho,hk=>by
   have ih:=qd4 p hp t (i+1) n
   have bad:∃ b o,(some ((false,([]:List Eff))):Option (Bool×List Eff))=some (b,o)∧o.length≤p.length∧∀ x∈o,okEf x:=⟨_,_,rfl,by simp,fun x h=>by cases h⟩
   show ∃ b o,T88 Ops.std _ _ p _ some _=some (b,o)∧_
   unfold T88
   have hw:IntKind.wrap IntKind.i64 ((i:Int)+1)=((i+1:Nat):Int):=qag (by omega)
   simp only [qah,qaj,qan,qal,qaw,qaa,qaf,mt,List.length_cons,List.length_nil,hw]
   rw [if_pos (by omega),if_pos (by omega),lex_ref,ob_s]
   rcases hl:lexS (p.getD i (Ty.dflt ty9)) with ⟨e,x,l⟩
   dsimp only
   by_cases he:e=0
   ·subst he
    obtain ⟨h1,h2,h3⟩:=lexS_ok hl
    rw [if_neg (by simp)]
    by_cases h3l:(l.length:Int)<3
    ·rw [if_pos h3l];exact bad
    ·rw [if_neg h3l,if_pos (by omega)]
     by_cases hk0:(l.getD (Int.toNat 0) (Ty.dflt ty52)).1=2
     ·rw [if_neg (fun h=>h hk0),if_pos (by omega)]
      by_cases hk1:(l.getD (Int.toNat 1) (Ty.dflt ty52)).1=4
      ·rw [if_neg (fun h=>h hk1),if_pos (by omega)]
       cases !(l.getD (Int.toNat 1) (Ty.dflt ty52)).2.1 == ([61]:List UInt8) with
       | true=>simp only [cond_true];exact bad
       | false=>
         simp only [cond_false]
         obtain ⟨k,e2,y,t1,t2,t3⟩:=take_ok h1 (by omega) 2 (by omega)
         have t1':M84 l 2=some ((k:Int),e2,y):=t1
         rw [t1',ob_s]
         dsimp only
         rcases t3 with ⟨rfl,_,hr,_⟩ | ⟨rfl,rfl⟩ | ⟨rfl,rfl,_⟩
         ·rw [if_neg (by simp),if_pos (by omega)]
          split
          ·exact bad
          ·rw [if_pos (by omega),if_pos (by omega)]
           refine ih _ (by omega) (by omega) (by simp;omega) fun z hz=>?_
           rcases List.mem_append.1 hz with hz | hz
           ·exact hk z hz
           ·simp only [List.mem_singleton] at hz
            rw [hz]
            refine ⟨?_,hr⟩
            have:=(qcn h1 (i:=0) (by omega) (Ty.dflt ty52)).2.1.2 hk0
            exact qec this
         ·rw [if_pos (by decide)];exact bad
         ·rw [if_pos (by decide)];exact bad
      ·rw [if_pos hk1];exact bad
     ·rw [if_pos hk0];exact bad
   ·rw [if_pos he];exact bad
theorem effects_ok (p:List (List UInt8)) (hp:p.length≤100000):∃ b o,M88 p=some (b,o)∧o.length≤p.length∧∀ x∈o,okEf x:=by
 show ∃ b o,T88 Ops.std M18 M84 p (R88 M18 M84 p 1000000) some none=some (b,o)∧_
 unfold T88
 exact qd4 p hp p.length 0 1000000 [] (by omega) (by omega) (by simp) (fun x h=>by cases h)
def pB:Nat→Nat
 | 0=>20
 | i+1=>2*pB i+20
theorem pB_le:∀ i,i≤30→pB i≤43000000000:=by decide
theorem pB_ge:∀ i,20≤pB i
 | 0=>by simp [pB]
 | i+1=>by have:=pB_ge i;simp only [pB];omega
theorem qcd (s:List UInt8) (a b:Int) (hs:s.length≤100000000000):∃ r,M76 s a b=some r∧r.length≤s.length+2:=by
 show ∃ r,T76 Ops.std s a b some=some r∧_
 unfold T76
 simp only [qah,qan,qaa,List.length_append,List.length_cons,List.length_nil]
 by_cases h:a<b
 ·rw [if_pos h,if_pos (by omega),if_pos (by omega)];exact ⟨_,rfl,by simp⟩
 ·rw [if_neg h];exact ⟨s,rfl,by omega⟩
theorem may_num {t:Trm} (h:mayT t=true) (h1:t.1=1):0≤t.2.1∧t.2.1≤999:=by
 unfold mayT at h
 simp [h1] at h
 omega
theorem rightE_may {e:List Trm} (h:rightE e=true):∀ t∈e,mayT t=true:=by
 unfold rightE fin30 at h
 cases hg:eGo e 0 with
 | none=>rw [hg] at h;cases h
 | some d=>exact eGo_may e 0 d hg
abbrev Sd:=List UInt8×Int
noncomputable abbrev prR (e:List Trm):=R41 M28 M74 M61 M75 M76 e
def okS (L:Nat) (st:List Sd):Prop:=∀ x∈st,x.1.length≤L
theorem okS.mono {L L':Nat} {st:List Sd} (h:okS L st) (hl:L≤L'):okS L' st:=fun x hx=>Nat.le_trans (h x hx) hl
theorem okS.app {L:Nat} {st:List Sd} {x:Sd} (h:okS L st) (hx:x.1.length≤L):okS L (st++[x]):=fun y hy=>by
 rcases List.mem_append.1 hy with hy | hy
 ·exact h y hy
 ·simp only [List.mem_singleton] at hy;rw [hy];exact hx
theorem okS.take {L:Nat} {st:List Sd} (h:okS L st) (k:Nat):okS L (st.take k):=fun y hy=>h y (List.mem_of_mem_take hy)
theorem okS.get {L:Nat} {st:List Sd} (h:okS L st) (k:Nat) (hk:k<st.length) (d:Sd):(st.getD k d).1.length≤L:=by
 rw [List.getD_eq_getElem?_getD,List.getElem?_eq_getElem hk];exact h _ (List.getElem_mem hk)
def sgnL:List (List UInt8):=[[],[],[],[],[33],[45],[42],[43],[45],[60],[60,61],[62],[62,61],[61,61],[33,61],[38,38],[124,124]]
theorem sgnL_len (k:Nat):(sgnL.getD k []).length≤2:=qaq (n:=2) rfl k
theorem qfx (e:List Trm) (he:rightE e=true):∀ (t i n:Nat) (st:List Sd),i+t=e.length→t<n→st.length≤i→okS (pB i) st→∃ s,prR e n (.l0 i st)=some s∧s.length≤43000000000
 | t,i,0,st,hi,hn,ho,hk=>by omega
 | 0,i,n+1,st,hi,hn,ho,hk=>by
   have hsh:=shortE.of he
   have hB:=pB_le i (by have:=hsh.1;omega)
   show ∃ s,T41 Ops.std _ _ _ _ _ e _ some _=some s∧_
   unfold T41
   simp only [qah,qaj,qal,qaa]
   rw [if_neg (by omega)]
   by_cases h0:((st.length:Nat):Int)=0
   ·rw [if_pos h0];exact ⟨_,rfl,by simp⟩
   ·rw [if_neg h0,if_pos (by omega)]
    exact ⟨_,rfl,by have:=hk.get 0 (by omega) (Ty.dflt ty122);exact Nat.le_trans this hB⟩
 | t+1,i,n+1,st,hi,hn,ho,hk=>by
   have ih:=qfx e he t (i+1) n
   have hsh:=shortE.of he
   have h30:=hsh.1
   have hB:=pB_le i (by omega)
   have hG:=pB_ge i
   have hB1:pB (i+1)=2*pB i+20:=rfl
   obtain ⟨x,hx⟩:∃ x,e.getD i (Ty.dflt ty63)=x:=⟨_,rfl⟩
   have hm:x∈e:=by
    rw [←hx,List.getD_eq_getElem?_getD,List.getElem?_eq_getElem (by omega)];exact List.getElem_mem _
   have hmay:=rightE_may he _ hm
   have hnm:=hsh.2 _ hm
   have hop:=mayT_op hmay
   show ∃ s,T41 Ops.std _ _ _ _ _ e _ some _=some s∧_
   unfold T41
   have hw:IntKind.wrap IntKind.i64 ((i:Int)+1)=((i+1:Nat):Int):=qag (by omega)
   obtain ⟨v,hv⟩:=qc3 x.1
   simp only [qah,qaj,qan,qal,qaa,qaf,hx,hw,hv,qe3,ob_s,mt,List.length_cons,List.length_nil]
   rw [if_pos (by omega),if_pos (by omega)]
   by_cases o0:opE x.1=0
   ·rw [if_pos o0]
    by_cases h1:x.1=1
    ·obtain ⟨q1,q2⟩:=may_num hmay h1
     obtain ⟨s,d1,d2⟩:=qdt x.2.1.toNat (by omega)
     rw [Int.toNat_of_nonneg q1] at d1
     rw [if_pos h1,d1,ob_s,if_pos (by omega)]
     exact ih _ (by omega) (by omega) (by simp;omega) ((hk.mono (by omega)).app (by show s.length≤_;omega))
    ·rw [if_neg h1]
     by_cases h2:x.1=2
     ·rw [if_pos h2,if_pos (by omega)]
      exact ih _ (by omega) (by omega) (by simp;omega) ((hk.mono (by omega)).app (by show x.2.2.1.length≤_;omega))
     ·rw [if_neg h2]
      simp only [List.length_append,List.length_cons,List.length_nil]
      rw [if_pos (by omega),if_pos (by omega),if_pos (by omega)]
      exact ih _ (by omega) (by omega) (by simp;omega) ((hk.mono (by omega)).app (by show (x.2.2.1++([64]:List UInt8)++x.2.2.2).length≤_;simp;omega))
   ·rw [if_neg o0]
    have hop17:0≤x.1∧x.1<17:=by unfold opE at hop;split at hop<;>omega
    have hsl:(([[],[],[],[],[33],[45],[42],[43],[45],[60],[60,61],[62],[62,61],[61,61],[33,61],[38,38],[124,124]]:List (List UInt8)).getD (Int.toNat x.1) []).length≤2:=sgnL_len (Int.toNat x.1)
    by_cases o1:opE x.1=1
    ·rw [if_pos o1]
     by_cases hl:((st.length:Nat):Int)<1
     ·rw [if_pos hl];exact ⟨_,rfl,by simp⟩
     ·have hw1:IntKind.wrap IntKind.i64 ((st.length:Int)-1)=((st.length-1:Nat):Int):=by rw [wrap64 (by omega) (by omega)];omega
      rw [if_neg hl]
      simp only [hw1,qaf]
      have hg:=hk.get (st.length-1) (by omega) (Ty.dflt ty122)
      obtain ⟨r,r1,r2⟩:=qcd (st.getD (st.length-1) (Ty.dflt ty122)).1 (st.getD (st.length-1) (Ty.dflt ty122)).2 v (by omega)
      rw [if_pos (by omega),if_pos (by omega),r1,ob_s]
      generalize ([[],[],[],[],[33],[45],[42],[43],[45],[60],[60,61],[62],[62,61],[61,61],[33,61],[38,38],[124,124]]:List (List UInt8)).getD (Int.toNat x.1) []=sg at hsl ⊢
      rw [if_pos (by omega),if_pos (by omega),if_pos (by simp;omega)]
      exact ih _ (by omega) (by omega) (by simp;omega) (((hk.mono (by omega)).take _).app (by show (sg++r).length≤_;simp;omega))
    ·rw [if_neg o1]
     by_cases hl:((st.length:Nat):Int)<2
     ·rw [if_pos hl];exact ⟨_,rfl,by simp⟩
     ·have hw1:IntKind.wrap IntKind.i64 ((st.length:Int)-1)=((st.length-1:Nat):Int):=by rw [wrap64 (by omega) (by omega)];omega
      have hw2:IntKind.wrap IntKind.i64 ((st.length:Int)-2)=((st.length-2:Nat):Int):=by rw [wrap64 (by omega) (by omega)];omega
      rw [if_neg hl]
      simp only [hw1,hw2,qaf]
      have hg1:=hk.get (st.length-1) (by omega) (Ty.dflt ty122)
      have hg2:=hk.get (st.length-2) (by omega) (Ty.dflt ty122)
      generalize ([[],[],[],[],[33],[45],[42],[43],[45],[60],[60,61],[62],[62,61],[61,61],[33,61],[38,38],[124,124]]:List (List UInt8)).getD (Int.toNat x.1) []=sg at hsl ⊢
      by_cases h3:v=3
      ·rw [if_pos h3]
       obtain ⟨a,a1,a2⟩:=qcd (st.getD (st.length-2) (Ty.dflt ty122)).1 (st.getD (st.length-2) (Ty.dflt ty122)).2 4 (by omega)
       obtain ⟨c,c1,c2⟩:=qcd (st.getD (st.length-1) (Ty.dflt ty122)).1 (st.getD (st.length-1) (Ty.dflt ty122)).2 (IntKind.wrap IntKind.i64 (v+1)) (by omega)
       simp only [a1,c1,ob_s,List.length_append]
       rw [if_pos (by omega),if_pos (by omega),if_pos (by omega),if_pos (by omega),if_pos (by omega),if_pos (by omega),if_pos (by simp;omega)]
       exact ih _ (by omega) (by omega) (by simp;omega) (((hk.mono (by omega)).take _).app (by show (a++sg++c).length≤_;simp;omega))
      ·rw [if_neg h3]
       obtain ⟨a,a1,a2⟩:=qcd (st.getD (st.length-2) (Ty.dflt ty122)).1 (st.getD (st.length-2) (Ty.dflt ty122)).2 v (by omega)
       obtain ⟨c,c1,c2⟩:=qcd (st.getD (st.length-1) (Ty.dflt ty122)).1 (st.getD (st.length-1) (Ty.dflt ty122)).2 (IntKind.wrap IntKind.i64 (v+1)) (by omega)
       simp only [a1,c1,ob_s,List.length_append]
       rw [if_pos (by omega),if_pos (by omega),if_pos (by omega),if_pos (by omega),if_pos (by omega),if_pos (by omega),if_pos (by simp;omega)]
       exact ih _ (by omega) (by omega) (by simp;omega) (((hk.mono (by omega)).take _).app (by show (a++sg++c).length≤_;simp;omega))
theorem print_ok (e:List Trm) (h:shortE e) (hr:rightE e=true):∃ s,M41 e=some s∧s.length≤43000000000:=by
 show ∃ s,T41 Ops.std M28 M74 M61 M75 M76 e (prR e 1000000) some none=some s∧_
 unfold T41
 rw [h.rtR,ob_s,hr]
 simp only [Bool.not_true,cond_false]
 exact qfx e hr e.length 0 1000000 [] (by omega) (by have:=h.1;omega) (by simp) (fun x h=>by cases h)
theorem okEf.short {x:Eff} (h:okEf x):shortE x.2:=shortE.of h.2
theorem reff_loop (l:List Eff) (hl:l.length≤100000) (hk:∀ x∈l,okEf x):∀ (t i n:Nat),i+t=l.length→t<n→∃ b,R121 M62 M28 l n (.l0 i)=some b∧(b=true→l.length≤3)
 | t,i,0,hi,hn=>by omega
 | 0,i,n+1,hi,hn=>by
   show ∃ b,T121 Ops.std _ _ l _ some _=some b∧_
   unfold T121
   simp only [qah,qas,qaa]
   rw [if_neg (by omega)]
   exact ⟨_,rfl,fun h=>by simp at h;omega⟩
 | t+1,i,n+1,hi,hn=>by
   have ih:=reff_loop l hl hk t (i+1) n
   show ∃ b,T121 Ops.std _ _ l _ some _=some b∧_
   unfold T121
   have hw:IntKind.wrap IntKind.i64 ((i:Int)+1)=((i+1:Nat):Int):=qag (by omega)
   have hm:l.getD i (Ty.dflt ty172)∈l:=by
    rw [List.getD_eq_getElem?_getD,List.getElem?_eq_getElem (by omega)];exact List.getElem_mem _
   have hx:=hk _ hm
   simp only [qah,qaj,qaa,qaf,hw]
   rw [if_pos (by omega),if_pos (by omega),qa2 _ (by have:=hx.1;omega),ob_s]
   cases isWordP (l.getD i (Ty.dflt ty172)).1 with
   | false=>exact ⟨false,rfl,fun h=>by cases h⟩
   | true=>
     simp only [Bool.not_true,cond_false]
     rw [if_pos (by omega),hx.short.rtR,ob_s,hx.2]
     simp only [Bool.not_true,cond_false]
     exact ih (by omega) (by omega)
theorem reff_ok (l:List Eff) (hl:l.length≤100000) (hk:∀ x∈l,okEf x):∃ b,M121 l=some b∧(b=true→l.length≤3):=by
 show ∃ b,T121 Ops.std M62 M28 l (R121 M62 M28 l 1000000) some none=some b∧_
 unfold T121
 exact reff_loop l hl hk l.length 0 1000000 (by omega) (by omega)
theorem peff_loop (l:List Eff) (h3:l.length≤3) (hk:∀ x∈l,okEf x):∀ (t i n:Nat) (s:List UInt8),i+t=l.length→t<n→s.length≤i*43000000100→∃ r,R122 M41 l n (.l0 s i)=some r∧r.length≤130000000000
 | t,i,0,s,hi,hn,hs=>by omega
 | 0,i,n+1,s,hi,hn,hs=>by
   show ∃ r,T122 Ops.std _ l _ some _=some r∧_
   unfold T122
   simp only [qah,qaa]
   rw [if_neg (by omega)]
   exact ⟨_,rfl,by omega⟩
 | t+1,i,n+1,s,hi,hn,hs=>by
   have ih:=peff_loop l h3 hk t (i+1) n
   show ∃ r,T122 Ops.std _ l _ some _=some r∧_
   unfold T122
   have hw:IntKind.wrap IntKind.i64 ((i:Int)+1)=((i+1:Nat):Int):=qag (by omega)
   have hm:l.getD i (Ty.dflt ty172)∈l:=by
    rw [List.getD_eq_getElem?_getD,List.getElem?_eq_getElem (by omega)];exact List.getElem_mem _
   have hx:=hk _ hm
   have hx1:=hx.1
   obtain ⟨w,w1,w2⟩:=print_ok _ hx.short hx.2
   simp only [qah,qaj,qan,qaa,qaf,hw,w1,ob_s,List.length_append,List.length_cons,List.length_nil]
   rw [if_pos (by omega),if_pos (by omega),if_pos (by omega),if_pos (by omega),if_pos (by omega),if_pos (by omega),if_pos (by omega)]
   exact ih _ (by omega) (by omega) (by simp only [List.length_append,List.length_cons,List.length_nil];omega)
theorem peff_ok (l:List Eff) (h3:l.length≤3) (hk:∀ x∈l,okEf x):∃ r,M122 l=some r∧r.length≤130000000000:=by
 show ∃ r,T122 Ops.std M41 l (R122 M41 l 1000000) some none=some r∧_
 unfold T122
 exact peff_loop l h3 hk l.length 0 1000000 [] (by omega) (by omega) (by simp)
theorem printTrans_ok (id:Int) (a b c d:List UInt8) (g:List Trm) (ef:List Eff) (ha:a.length≤60000) (hb:b.length≤60000) (hc:c.length≤60000) (hd:d.length≤60000) (hg:shortE g) (hl:ef.length≤100000) (hk:∀ x∈ef,okEf x) :
  ∃ s,M89 id a b c d g ef=some s:=by
 show ∃ s,T89 Ops.std M86 M120 M62 M28 M121 M75 M41 M122 id a b c d g ef some=some s
 unfold T89
 obtain ⟨ch,ok,h1⟩:=qdu d (by omega)
 rw [h1,ob_s,id_ok,ob_s,qa2 a (by omega),qa2 b (by omega),qa2 c (by omega),hg.rtR]
 simp only [ob_s]
 by_cases hid:1≤id∧id≤999
 ·rw [decide_eq_true hid]
  simp only [Bool.not_true,cond_false]
  cases ok with
  | false=>exact ⟨_,rfl⟩
  | true=>
  cases isWordP a with
  | false=>exact ⟨_,rfl⟩
  | true=>
  cases isWordP b with
  | false=>exact ⟨_,rfl⟩
  | true=>
  cases isWordP c with
  | false=>exact ⟨_,rfl⟩
  | true=>
  cases hr:rightE g with
  | false=>exact ⟨_,rfl⟩
  | true=>
  obtain ⟨bb,e1,e2⟩:=reff_ok ef hl hk
  simp only [Bool.not_true,cond_false,e1,ob_s]
  cases hbb:bb with
  | false=>exact ⟨_,rfl⟩
  | true=>
  obtain ⟨w,w1,w2⟩:=qdt id.toNat (by omega)
  rw [Int.toNat_of_nonneg (by omega)] at w1
  obtain ⟨u,u1,u2⟩:=print_ok g hg hr
  obtain ⟨z,z1,z2⟩:=peff_ok ef (e2 hbb) hk
  simp only [Bool.not_true,cond_false,w1,u1,z1,ob_s,qan,qaa,List.length_append,List.length_cons,List.length_nil]
  cases d == mt UInt8 with
  | true=>
    simp only [cond_true]
    rw [if_pos (by omega),if_pos (by omega),if_pos (by omega),if_pos (by omega),if_pos (by omega),if_pos (by omega),if_pos (by omega),if_pos (by omega),if_pos (by omega),if_pos (by omega),if_pos (by omega)]
    exact ⟨_,rfl⟩
  | false=>
    simp only [cond_false]
    rw [if_pos (by omega),if_pos (by omega),if_pos (by omega),if_pos (by omega),if_pos (by omega),if_pos (by omega),if_pos (by omega),if_pos (by omega),if_pos (by omega),if_pos (by omega),if_pos (by omega)]
    exact ⟨_,rfl⟩
 ·rw [decide_eq_false hid]
  exact ⟨_,rfl⟩
abbrev Trn:=Int×List UInt8×List UInt8×List UInt8×List UInt8×List Trm×List Eff
def okTr (t:Trn):Prop:=t.2.1.length≤60000∧t.2.2.1.length≤60000∧t.2.2.2.1.length≤60000∧t.2.2.2.2.1.length≤60000∧shortE t.2.2.2.2.2.1∧t.2.2.2.2.2.2.length≤100000∧∀ x∈t.2.2.2.2.2.2,okEf x
theorem parseTrans_ok (s:List UInt8) (hs:s.length≤60000):∃ id a b c d g ef ok,M54 s=some (id,a,b,c,d,g,ef,ok)∧okTr (id,a,b,c,d,g,ef):=by
 show ∃ id a b c d g ef ok,T54 Ops.std M52 M85 M86 M55 M51 M87 M88 M89 s some=some (id,a,b,c,d,g,ef,ok)∧_
 unfold T54
 have bad:∃ id a b c d g ef ok,(some ((0:Int),([]:List UInt8),([]:List UInt8),([]:List UInt8),([]:List UInt8),([]:List Trm),([]:List Eff),false))=some (id,a,b,c,d,g,ef,ok)∧okTr (id,a,b,c,d,g,ef):=
  ⟨_,_,_,_,_,_,_,_,rfl,by simp,by simp,by simp,by simp,qbq,by simp,fun x h=>by cases h⟩
 obtain ⟨w,w1,w2,w3⟩:=words_ok s hs
 rw [w1,ob_s]
 simp only [qah,qaj,qal,qaw,qaa,mt]
 by_cases h6:((w.length:Nat):Int)<6
 ·rw [if_pos h6];exact bad
 ·rw [if_neg h6,if_pos (by omega)]
  obtain ⟨n,ok,a1⟩:=qc7 (w.getD (Int.toNat 0) (Ty.dflt ty9)) false
  rw [a1,ob_s,if_pos (by omega),if_pos (by omega),if_pos (by omega),if_pos (by omega)]
  have g1:=w3.get (Int.toNat 1)
  have g2:=w3.get (Int.toNat 2)
  have g3:=w3.get (Int.toNat 3)
  have g4:=w3.get (Int.toNat 4)
  obtain ⟨r,r1,r2⟩:=skip_ok s hs 5 (by omega)
  have r1':M55 s 5=some r:=r1
  obtain ⟨l,l1,l2,l3,l4⟩:=cut_ok r (by omega) 59
  obtain ⟨e,x,g,p1,p2,p3⟩:=parse7_ok (l.getD (Int.toNat 0) (Ty.dflt ty9))
  obtain ⟨fine,ef,f1,f2,f3⟩:=effects_ok (List.drop (Int.toNat 1) (List.take l.length l)) (by simp;omega)
  have fin:∀ d:List UInt8,d.length≤60000→∃ s',M89 n (w.getD (Int.toNat 1) (Ty.dflt ty9)) (w.getD (Int.toNat 2) (Ty.dflt ty9)) (w.getD (Int.toNat 3) (Ty.dflt ty9)) d g ef=some s':=fun d hd=>
   printTrans_ok n _ _ _ d g ef (Nat.le_trans g1 hs) (Nat.le_trans g2 hs) (Nat.le_trans g3 hs) hd p2 (by simp at f2;omega) f3
  have good:∀ d:List UInt8,d.length≤60000→okTr (n,w.getD (Int.toNat 1) (Ty.dflt ty9),w.getD (Int.toNat 2) (Ty.dflt ty9),w.getD (Int.toNat 3) (Ty.dflt ty9),d,g,ef):=fun d hd=>
   ⟨Nat.le_trans g1 hs,Nat.le_trans g2 hs,Nat.le_trans g3 hs,hd,p2,by simp at f2;show ef.length≤100000;omega,f3⟩
  cases w.getD (Int.toNat 4) (Ty.dflt ty9) == ([45]:List UInt8) with
  | true=>
    simp only [cond_true]
    rw [r1',ob_s,l1,ob_s,if_pos (by omega),p1,ob_s,if_pos (by omega),f1,ob_s]
    dsimp only
    cases ok with
    | false=>exact bad
    | true=>
      simp only [Bool.not_true,cond_false]
      by_cases he:e=0
      ·rw [if_neg (fun h=>h he)]
       cases fine with
       | false=>exact bad
       | true=>
         simp only [Bool.not_true,cond_false]
         obtain ⟨s',q1⟩:=fin [] (by simp)
         rw [q1,ob_s]
         cases s' == ([]:List UInt8) with
         | true=>exact bad
         | false=>exact ⟨_,_,_,_,_,_,_,_,rfl,good [] (by simp)⟩
      ·rw [if_pos he];exact bad
  | false=>
    simp only [cond_false]
    obtain ⟨ch,cok,c1⟩:=qdu (w.getD (Int.toNat 4) (Ty.dflt ty9)) (by have:(w.getD (Int.toNat 4) (Ty.dflt ty9)).length≤s.length:=g4;omega)
    rw [c1,ob_s]
    dsimp only
    cases cok with
    | false=>exact bad
    | true=>
    simp only [Bool.not_true,cond_false]
    rw [r1',ob_s,l1,ob_s,if_pos (by omega),p1,ob_s,if_pos (by omega),f1,ob_s]
    dsimp only
    cases ok with
    | false=>exact bad
    | true=>
      simp only [Bool.not_true,cond_false]
      by_cases he:e=0
      ·rw [if_neg (fun h=>h he)]
       cases fine with
       | false=>exact bad
       | true=>
         simp only [Bool.not_true,cond_false]
         obtain ⟨s',q1⟩:=fin (w.getD (Int.toNat 4) (Ty.dflt ty9)) (Nat.le_trans g4 hs)
         rw [q1,ob_s]
         cases s' == ([]:List UInt8) with
         | true=>exact bad
         | false=>exact ⟨_,_,_,_,_,_,_,_,rfl,good _ (Nat.le_trans g4 hs)⟩
      ·rw [if_pos he];exact bad
abbrev Vrb:=List UInt8×Int×Int×Int
abbrev Pcs:=List UInt8×List (List UInt8)
section
variable (vs:List Vrb) (ps:List Pcs) (ts:List Trn)
theorem qd5 (hp:ps.length≤100000) (s:List UInt8):∀ (t i n:Nat),i+t=ps.length→t<n→∃ r,R68 vs ps ts s n (.l0 i)=some r∧(r = -1∨∃ k:Nat,k<ps.length∧r=(k:Int))
 | t,i,0,hi,hn=>by omega
 | 0,i,n+1,hi,hn=>by
   show ∃ r,T68 Ops.std vs ps ts s _ some _=some r∧_
   unfold T68
   simp only [qah,qaa]
   rw [if_neg (by omega)]
   exact ⟨_,rfl,.inl rfl⟩
 | t+1,i,n+1,hi,hn=>by
   have ih:=qd5 hp s t (i+1) n (by omega) (by omega)
   show ∃ r,T68 Ops.std vs ps ts s _ some _=some r∧_
   unfold T68
   simp only [qah,qaj,qaa,qaf,show IntKind.wrap IntKind.i64 ((i:Int)+1)=((i+1:Nat):Int) from qag (by omega)]
   rw [if_pos (by omega),if_pos (by omega)]
   cases (ps.getD i (Ty.dflt ty101)).1 == s with
   | true=>exact ⟨_,rfl,.inr ⟨i,by omega,rfl⟩⟩
   | false=>exact ih
theorem qdv (hp:ps.length≤100000) (s:List UInt8):∃ r,M68 vs ps ts s=some r∧(r = -1∨∃ k:Nat,k<ps.length∧r=(k:Int)):=by
 show ∃ r,T68 Ops.std vs ps ts s (R68 vs ps ts s 1000000) some none=some r∧_
 unfold T68
 exact qd5 vs ps ts hp s ps.length 0 1000000 (by omega) (by omega)
theorem qc8 (hv:vs.length≤100000) (s:List UInt8):∀ (t i n:Nat),i+t=vs.length→t<n→∃ r,R66 vs ps ts s n (.l0 i)=some r∧(r = -1∨∃ k:Nat,k<vs.length∧r=(k:Int))
 | t,i,0,hi,hn=>by omega
 | 0,i,n+1,hi,hn=>by
   show ∃ r,T66 Ops.std vs ps ts s _ some _=some r∧_
   unfold T66
   simp only [qah,qaa]
   rw [if_neg (by omega)]
   exact ⟨_,rfl,.inl rfl⟩
 | t+1,i,n+1,hi,hn=>by
   have ih:=qc8 hv s t (i+1) n (by omega) (by omega)
   show ∃ r,T66 Ops.std vs ps ts s _ some _=some r∧_
   unfold T66
   simp only [qah,qaj,qaa,qaf,show IntKind.wrap IntKind.i64 ((i:Int)+1)=((i+1:Nat):Int) from qag (by omega)]
   rw [if_pos (by omega),if_pos (by omega)]
   cases (vs.getD i (Ty.dflt ty97)).1 == s with
   | true=>exact ⟨_,rfl,.inr ⟨i,by omega,rfl⟩⟩
   | false=>exact ih
theorem qct (hv:vs.length≤100000) (s:List UInt8):∃ r,M66 vs ps ts s=some r∧(r = -1∨∃ k:Nat,k<vs.length∧r=(k:Int)):=by
 show ∃ r,T66 Ops.std vs ps ts s (R66 vs ps ts s 1000000) some none=some r∧_
 unfold T66
 exact qc8 vs ps ts hv s vs.length 0 1000000 (by omega) (by omega)
def okLocs (ps:List Pcs):Prop:=∀ p∈ps,p.2.length≤100000
theorem okLocs.get {ps:List Pcs} (h:okLocs ps) (k:Nat) (hk:k<ps.length):(ps.getD k (Ty.dflt ty101)).2.length≤100000:=by
 rw [List.getD_eq_getElem?_getD,List.getElem?_eq_getElem hk];exact h _ (List.getElem_mem hk)
theorem qfy (hl:okLocs ps) (p:Nat) (hp:p<ps.length) (s:List UInt8):∀ (t i n:Nat),i+t=(ps.getD p (Ty.dflt ty101)).2.length→t<n→∃ r,R67 vs ps ts p s n (.l0 i)=some r∧(r = -1∨∃ k:Nat,k<(ps.getD p (Ty.dflt ty101)).2.length∧r=(k:Int))
 | t,i,0,hi,hn=>by omega
 | 0,i,n+1,hi,hn=>by
   show ∃ r,T67 Ops.std vs ps ts p s _ some _=some r∧_
   unfold T67
   simp only [qah,qaj,qaa,qaf]
   rw [if_pos (by omega),if_neg (by omega)]
   exact ⟨_,rfl,.inl rfl⟩
 | t+1,i,n+1,hi,hn=>by
   have ih:=qfy hl p hp s t (i+1) n (by omega) (by omega)
   have hg:=hl.get p hp
   show ∃ r,T67 Ops.std vs ps ts p s _ some _=some r∧_
   unfold T67
   simp only [qah,qaj,qaa,qaf,show IntKind.wrap IntKind.i64 ((i:Int)+1)=((i+1:Nat):Int) from qag (by omega)]
   rw [if_pos (by omega),if_pos (by omega),if_pos (by omega),if_pos (by omega)]
   generalize ((ps.getD p (Ty.dflt ty101)).2.getD i (Ty.dflt Ty.str) == s)=b
   cases b with
   | true=>exact ⟨_,rfl,.inr ⟨i,by omega,rfl⟩⟩
   | false=>exact ih
theorem qei (hl:okLocs ps) (p:Int) (hp:p = -1∨∃ k:Nat,k<ps.length∧p=(k:Int)) (s:List UInt8):∃ r,M67 vs ps ts p s=some r∧(0≤r→∃ q:Nat,q<ps.length∧p=(q:Int)):=by
 show ∃ r,T67 Ops.std vs ps ts p s (R67 vs ps ts p s 1000000) some none=some r∧_
 unfold T67
 simp only [qah,qaa]
 rcases hp with rfl | ⟨k,hk,rfl⟩
 ·rw [if_pos (by decide)];exact ⟨_,rfl,fun h=>by omega⟩
 ·rw [if_neg (by omega)]
  obtain ⟨r,h1,h2⟩:=qfy vs ps ts hl k hk s (ps.getD k (Ty.dflt ty101)).2.length 0 1000000 (by omega) (by have:=hl.get k hk;omega)
  exact ⟨r,h1,fun _=>⟨k,hk,rfl⟩⟩
structure smallG:Prop where
 v:vs.length≤100000
 p:ps.length≤100000
 l:okLocs ps
variable {vs ps}
def knE (vs:List Vrb) (ps:List Pcs) (ts:List Trn) (t:Trm):Prop:=
 (t.1=2→∃ k:Nat,k<vs.length∧M66 vs ps ts t.2.2.1=some (k:Int))∧
 (t.1=3→∃ (q:Nat) (r:Int),q<ps.length∧M68 vs ps ts t.2.2.1=some (q:Int)∧M67 vs ps ts (q:Int) t.2.2.2=some r)
theorem qfz (hg:smallG vs ps) (e:List Trm) (he:shortE e):∀ (t i n:Nat),i+t=e.length→t<n→(∀ x∈e.take i,knE vs ps ts x)→∃ b,R32 M66 M68 M67 M28 vs ps ts e n (.l0 i)=some b∧(b=true→rightE e=true∧∀ x∈e,knE vs ps ts x)
 | t,i,0,hi,hn,hk=>by omega
 | 0,i,n+1,hi,hn,hk=>by
   show ∃ b,T32 Ops.std _ _ _ _ vs ps ts e _ some _=some b∧_
   unfold T32
   simp only [qah,qaa]
   rw [if_neg (by omega),he.rtR,ob_s]
   refine ⟨_,rfl,fun h=>⟨h,?_⟩⟩
   rwa [List.take_of_length_le (by omega)] at hk
 | t+1,i,n+1,hi,hn,hk=>by
   have ih:=qfz hg e he t (i+1) n (by omega) (by omega)
   have h30:=he.1
   obtain ⟨x,hx⟩:∃ x,e.getD i (Ty.dflt ty63)=x:=⟨_,rfl⟩
   have htk:e.take (i+1)=e.take i++[x]:=by
    rw [List.take_succ_eq_append_getElem (by omega)]
    rw [List.getD_eq_getElem?_getD,List.getElem?_eq_getElem (by omega)] at hx
    rw [←hx];rfl
   have nxt:knE vs ps ts x→∀ y∈e.take (i+1),knE vs ps ts y:=fun h y hy=>by
    rw [htk] at hy
    rcases List.mem_append.1 hy with hy | hy
    ·exact hk y hy
    ·simp only [List.mem_singleton] at hy;rw [hy];exact h
   show ∃ b,T32 Ops.std _ _ _ _ vs ps ts e _ some _=some b∧_
   unfold T32
   simp only [qah,qaj,qal,qaa,qaf,hx,show IntKind.wrap IntKind.i64 ((i:Int)+1)=((i+1:Nat):Int) from qag (by omega)]
   rw [if_pos (by omega),if_pos (by omega)]
   obtain ⟨r,r1,r2⟩:=qct vs ps ts hg.v x.2.2.1
   obtain ⟨q,q1,q2⟩:=qdv vs ps ts hg.p x.2.2.1
   obtain ⟨z,z1,z2⟩:=qei vs ps ts hg.l q q2 x.2.2.2
   by_cases h2:x.1=2
   ·rw [if_pos h2,if_pos (by omega),r1,ob_s]
    by_cases hr:r<0
    ·rw [if_pos hr];exact ⟨_,rfl,fun h=>by cases h⟩
    ·rw [if_neg hr,if_pos (by omega),if_neg (by omega)]
     refine ih (nxt ⟨fun _=>?_,fun h=>by omega⟩)
     rcases r2 with rfl | ⟨k,hk1,rfl⟩
     ·omega
     ·exact ⟨k,hk1,r1⟩
   ·rw [if_neg h2,if_pos (by omega)]
    by_cases h3:x.1=3
    ·rw [if_pos h3,if_pos (by omega),if_pos (by omega),q1,ob_s,z1,ob_s]
     by_cases hz:z<0
     ·rw [if_pos hz];exact ⟨_,rfl,fun h=>by cases h⟩
     ·rw [if_neg hz]
      obtain ⟨q',hq',rfl⟩:=z2 (by omega)
      exact ih (nxt ⟨fun h=>by omega,fun _=>⟨q',z,hq',q1,z1⟩⟩)
    ·rw [if_neg h3]
     exact ih (nxt ⟨fun h=>absurd h h2,fun h=>absurd h h3⟩)
theorem qej (hg:smallG vs ps) (e:List Trm) (he:shortE e):∃ b,M32 vs ps ts e=some b∧(b=true→rightE e=true∧∀ x∈e,knE vs ps ts x):=by
 show ∃ b,T32 Ops.std M66 M68 M67 M28 vs ps ts e (R32 M66 M68 M67 M28 vs ps ts e 1000000) some none=some b∧_
 unfold T32
 exact qfz ts hg e he e.length 0 1000000 (by omega) (by have:=he.1;omega) (fun x h=>by simp at h)
end
theorem qdw (l:List (List UInt8)) (hl:l.length≤6):∀ (f i j n:Nat),10*(l.length-i)+(l.length-j)+1≤f→f≤n→i≤l.length→j≤i→i<l.length→∃ b,R91 l n (.l1 i j)=some b
 | f,i,j,0,hf,hn,hi,hj,hil=>by omega
 | f,i,j,n+1,hf,hn,hi,hj,hil=>by
   show ∃ b,T91 Ops.std l _ some _=some b
   unfold T91
   simp only [qah,qaj,qaa,qaf,show IntKind.wrap IntKind.i64 ((i:Int)+1)=((i+1:Nat):Int) from qag (by omega),show IntKind.wrap IntKind.i64 ((j:Int)+1)=((j+1:Nat):Int) from qag (by omega)]
   by_cases h:j<i
   ·rw [if_pos (by omega),if_pos (by omega),if_pos (by omega)]
    generalize (l.getD i (Ty.dflt ty9) == l.getD j (Ty.dflt ty9))=b
    cases b with
    | true=>exact ⟨_,rfl⟩
    | false=>exact qdw l hl (f-1) i (j+1) n (by omega) (by omega) hi (by omega) hil
   ·rw [if_neg (by omega)]
    obtain ⟨m,rfl⟩:∃ m,n=m+1:=⟨n-1,by omega⟩
    show ∃ b,T91 Ops.std l _ some _=some b
    unfold T91
    simp only [qah,qaa]
    by_cases h2:i+1<l.length
    ·rw [if_pos (by omega)]
     exact qdw l hl (f-2) (i+1) 0 m (by omega) (by omega) (by omega) (by omega) h2
    ·rw [if_neg (by omega)];exact ⟨_,rfl⟩
theorem twice_ok (l:List (List UInt8)) (hl:l.length≤6):∃ b,M91 l=some b:=by
 show ∃ b,T91 Ops.std l (R91 l 1000000) some none=some b
 unfold T91
 show ∃ b,T91 Ops.std l (R91 l 999999) some _=some b
 unfold T91
 simp only [qah,qaa]
 by_cases h:0<l.length
 ·rw [if_pos (by omega)]
  exact qdw l hl 100 0 0 999999 (by omega) (by omega) (by omega) (by omega) h
 ·rw [if_neg (by omega)];exact ⟨_,rfl⟩
theorem take_ext {α:Type} {P:α→Prop} {l:List α} {i:Nat} (hi:i<l.length) (d:α) (h:∀ x∈l.take i,P x) (hx:P (l.getD i d)):∀ x∈l.take (i+1),P x:=by
 intro x hm
 rw [List.take_succ_eq_append_getElem hi] at hm
 rcases List.mem_append.1 hm with hm | hm
 ·exact h x hm
 ·simp only [List.mem_singleton] at hm
  rw [hm]
  rw [List.getD_eq_getElem?_getD,List.getElem?_eq_getElem hi] at hx
  exact hx
theorem qc9 {α:Type} {l:List α} {i:Nat} (hi:i<l.length) (d:α):l.getD i d∈l:=by
 rw [List.getD_eq_getElem?_getD,List.getElem?_eq_getElem hi];exact List.getElem_mem hi
structure smallM (vs:List Vrb) (ps:List Pcs) (ts:List Trn):Prop where
 vl:vs.length≤5001
 v:∀ v∈vs,v.1.length≤60000
 pl:ps.length≤5001
 p:∀ p∈ps,p.1.length≤60000∧p.2.length≤60001∧okL 60000 p.2
 tl:ts.length≤5001
 t:∀ t∈ts,okTr t
theorem smallM.g {vs:List Vrb} {ps:List Pcs} {ts:List Trn} (h:smallM vs ps ts):smallG vs ps:=⟨by have:=h.vl;omega,by have:=h.pl;omega,fun p hp=>by have:=(h.p p hp).2.1;omega⟩
def okVar (v:Vrb):Prop:=v.2.1≤v.2.2.2∧v.2.2.2≤v.2.2.1∧-999≤v.2.1∧v.2.2.1≤999
structure goodM (vs:List Vrb) (ps:List Pcs):Prop where
 vl:vs.length≤4
 v:∀ v∈vs,okVar v
 pl:ps.length≤3
 p:∀ p∈ps,1≤p.2.length∧p.2.length≤6
section
variable {vs:List Vrb} {ps:List Pcs} {ts:List Trn} (hM:smallM vs ps ts)
noncomputable abbrev rtR (vs:List Vrb) (ps:List Pcs) (ts:List Trn) (id:Int) (a b c d:List UInt8) (g:List Trm) (ef:List Eff):=R92 M68 M86 M120 M67 M32 M66 vs ps ts id a b c d g ef
include hM in
theorem rt_loop (id:Int) (a b c d:List UInt8) (g:List Trm) (ef:List Eff) (hl:ef.length≤3) (hk:∀ x∈ef,okEf x):∀ (t i n:Nat),i+t=ef.length→t<n→∃ r,rtR vs ps ts id a b c d g ef n (.l0 i)=some r
 | t,i,0,hi,hn=>by omega
 | 0,i,n+1,hi,hn=>by
   show ∃ r,T92 Ops.std _ _ _ _ _ _ vs ps ts id a b c d g ef _ some _=some r
   unfold T92
   simp only [qah,qaa]
   rw [if_neg (by omega)]
   exact ⟨_,rfl⟩
 | t+1,i,n+1,hi,hn=>by
   have ih:=rt_loop id a b c d g ef hl hk t (i+1) n (by omega) (by omega)
   have hx:=hk _ (qc9 (show i<ef.length by omega) (Ty.dflt ty172))
   show ∃ r,T92 Ops.std _ _ _ _ _ _ vs ps ts id a b c d g ef _ some _=some r
   unfold T92
   obtain ⟨r,r1,_⟩:=qct vs ps ts hM.g.v (ef.getD i (Ty.dflt ty172)).1
   obtain ⟨q,q1,_⟩:=qej ts hM.g (ef.getD i (Ty.dflt ty172)).2 hx.short
   simp only [qah,qaj,qaa,qaf,r1,q1,ob_s,show IntKind.wrap IntKind.i64 ((i:Int)+1)=((i+1:Nat):Int) from qag (by omega)]
   rw [if_pos (by omega),if_pos (by omega)]
   by_cases hr:r<0
   ·rw [if_pos hr];exact ⟨_,rfl⟩
   ·rw [if_neg hr,if_pos (by omega)]
    cases q with
    | false=>exact ⟨_,rfl⟩
    | true=>exact ih
include hM in
theorem rt_ok (t:Trn) (ht:okTr t):∃ r,M92 vs ps ts t.1 t.2.1 t.2.2.1 t.2.2.2.1 t.2.2.2.2.1 t.2.2.2.2.2.1 t.2.2.2.2.2.2=some r:=by
 obtain ⟨id,a,b,c,d,g,ef⟩:=t
 obtain ⟨h1,h2,h3,h4,h5,h6,h7⟩:=ht
 show ∃ r,T92 Ops.std M68 M86 M120 M67 M32 M66 vs ps ts id a b c d g ef (rtR vs ps ts id a b c d g ef 1000000) some none=some r
 unfold T92
 obtain ⟨p,p1,p2⟩:=qdv vs ps ts hM.g.p a
 obtain ⟨ch,ok,c1⟩:=qdu d (by simp only at h4;omega)
 obtain ⟨x,x1,_⟩:=qei vs ps ts hM.g.l p p2 b
 obtain ⟨y,y1,_⟩:=qei vs ps ts hM.g.l p p2 c
 obtain ⟨q,q1,_⟩:=qej ts hM.g g h5
 simp only [p1,c1,id_ok,x1,y1,q1,ob_s,qah,qaa]
 cases decide (1≤id∧id≤999) with
 | false=>exact ⟨_,rfl⟩
 | true=>
 cases ok with
 | false=>exact ⟨_,rfl⟩
 | true=>
 simp only [Bool.not_true,cond_false]
 by_cases hx:x<0
 ·rw [if_pos hx];exact ⟨_,rfl⟩
 ·rw [if_neg hx]
  by_cases hy:y<0
  ·rw [if_pos hy];exact ⟨_,rfl⟩
  ·rw [if_neg hy]
   cases q with
   | false=>exact ⟨_,rfl⟩
   | true=>
   simp only [Bool.not_true,cond_false]
   by_cases h3:(3:Int)<((ef.length:Nat):Int)
   ·rw [if_pos h3];exact ⟨_,rfl⟩
   ·rw [if_neg h3]
    exact rt_loop hM id a b c d g ef (by omega) h7 ef.length 0 1000000 (by omega) (by omega)
noncomputable abbrev rmR (vs:List Vrb) (ps:List Pcs) (ts:List Trn):=R56 M62 M90 M91 M92 vs ps ts
include hM in
theorem rm_l3 (h16:ts.length≤16):∀ (t i n:Nat),i+t=ts.length→2*t<n→∃ r,rmR vs ps ts n (.l3 i)=some r
 | t,i,0,hi,hn=>by omega
 | 0,i,n+1,hi,hn=>by
   show ∃ r,T56 Ops.std _ _ _ _ vs ps ts _ some _=some r
   unfold T56
   simp only [qah,qaa]
   rw [if_neg (by omega)]
   exact ⟨_,rfl⟩
 | t+1,i,n+1,hi,hn=>by
   obtain ⟨m,rfl⟩:∃ m,n=m+1:=⟨n-1,by omega⟩
   have ih:=rm_l3 h16 t (i+1) m (by omega) (by omega)
   have h25:rmR vs ps ts (m+1) (.l1025 i)=rmR vs ps ts m (.l3 ((i+1:Nat):Int)):=by
    show T56 Ops.std _ _ _ _ vs ps ts _ some _=_
    unfold T56
    simp only [show IntKind.wrap IntKind.i64 ((i:Int)+1)=((i+1:Nat):Int) from qag (by omega)]
   obtain ⟨r,r1⟩:=rt_ok hM (ts.getD i (Ty.dflt ty104)) (hM.t _ (qc9 (by omega) _))
   show ∃ r,T56 Ops.std _ _ _ _ vs ps ts _ some _=some r
   unfold T56
   simp only [qah,qas,qaj,qaa,qaf,r1,ob_s]
   rw [if_pos (by omega),if_pos (by omega)]
   cases r with
   | false=>exact ⟨_,rfl⟩
   | true=>
   simp only [Bool.not_true,cond_false]
   by_cases h0:(0:Int)<(i:Int)
   ·rw [if_pos h0,if_pos (by omega),show IntKind.wrap IntKind.i64 ((i:Int)-1)=((i-1:Nat):Int) by rw [wrap64 (by omega) (by omega)];omega,if_pos (by omega)]
    split
    ·exact ⟨_,rfl⟩
    ·obtain ⟨r,hr⟩:=ih;exact ⟨r,h25.trans hr⟩
   ·rw [if_neg h0];obtain ⟨r,hr⟩:=ih;exact ⟨r,h25.trans hr⟩
theorem rm_l2 (Q:Bool→Prop) (hQ:Q false) (i:Nat) (hi:i<100000) (vn pn:List (List UInt8)) (nm:List UInt8) (locs:List (List UInt8)) (hl:locs.length≤6) (hk:okL 60000 locs) (N:Nat) (hc:∀ m,N≤m→∃ r,rmR vs ps ts m (.l1 ((i+1:Nat):Int) vn pn)=some r∧Q r) :
  ∀ (t j n:Nat),j+t=locs.length→N+t<n→∃ r,rmR vs ps ts n (.l2 i j vn pn nm locs)=some r∧Q r
 | t,j,0,hj,hn=>by omega
 | 0,j,n+1,hj,hn=>by
   show ∃ r,T56 Ops.std _ _ _ _ vs ps ts _ some _=some r∧_
   unfold T56
   simp only [qah,qaa,show IntKind.wrap IntKind.i64 ((i:Int)+1)=((i+1:Nat):Int) from qag (by omega)]
   rw [if_neg (by omega)]
   exact hc n (by omega)
 | t+1,j,n+1,hj,hn=>by
   have ih:=rm_l2 Q hQ i hi vn pn nm locs hl hk N hc t (j+1) n (by omega) (by omega)
   show ∃ r,T56 Ops.std _ _ _ _ vs ps ts _ some _=some r∧_
   unfold T56
   have hlen:=hk.get j
   simp only [qah,qaj,qaa,qaf,show IntKind.wrap IntKind.i64 ((j:Int)+1)=((j+1:Nat):Int) from qag (by omega)]
   rw [if_pos (by omega),if_pos (by omega),qa2 _ (by have:(locs.getD j (Ty.dflt ty9)).length≤60000:=hlen;omega),ob_s]
   cases isWordP (locs.getD j (Ty.dflt ty9)) with
   | false=>exact ⟨false,rfl,hQ⟩
   | true=>exact ih
include hM in
theorem rm_l1 (hv:vs.length≤4→∀ v∈vs,okVar v):∀ (t i n:Nat) (vn pn:List (List UInt8)),i+t=ps.length→12*t+100<n→vn.length=vs.length→pn.length=i→(∀ p∈ps.take i,1≤p.2.length∧p.2.length≤6)→∃ r,rmR vs ps ts n (.l1 i vn pn)=some r∧(r=true→goodM vs ps)
 | t,i,0,vn,pn,hi,hn,h1,h2,hk=>by omega
 | 0,i,n+1,vn,pn,hi,hn,h1,h2,hk=>by
   show ∃ r,T56 Ops.std _ _ _ _ vs ps ts _ some _=some r∧_
   unfold T56
   simp only [qah,qaa]
   rw [if_neg (by omega)]
   have bad:∃ r:Bool,(some false:Option Bool)=some r∧(r=true→goodM vs ps):=⟨false,rfl,fun h=>by cases h⟩
   by_cases c1:(4:Int)<((vn.length:Nat):Int)
   ·rw [if_pos c1];exact bad
   ·rw [if_neg c1]
    by_cases c2:((pn.length:Nat):Int)<1
    ·rw [if_pos c2];exact bad
    ·rw [if_neg c2]
     by_cases c3:(3:Int)<((pn.length:Nat):Int)
     ·rw [if_pos c3];exact bad
     ·rw [if_neg c3]
      by_cases c4:(16:Int)<((ts.length:Nat):Int)
      ·rw [if_pos c4];exact bad
      ·rw [if_neg c4]
       obtain ⟨x,x1⟩:=twice_ok vn (by omega)
       obtain ⟨y,y1⟩:=twice_ok pn (by omega)
       rw [x1,ob_s]
       cases x with
       | true=>exact bad
       | false=>
       simp only [cond_false]
       rw [y1,ob_s]
       cases y with
       | true=>exact bad
       | false=>
       simp only [cond_false]
       obtain ⟨m,rfl⟩:∃ m,n=m+1:=⟨n-1,by omega⟩
       have h23:rmR vs ps ts (m+1) .l1023=rmR vs ps ts m (.l3 0):=rfl
       obtain ⟨r,r1⟩:=rm_l3 hM (by omega) ts.length 0 m (by omega) (by omega)
       refine ⟨r,h23.trans r1,fun _=>⟨by omega,hv (by omega),by omega,?_⟩⟩
       rwa [List.take_of_length_le (by omega)] at hk
 | t+1,i,n+1,vn,pn,hi,hn,h1,h2,hk=>by
   have hpl:=hM.pl
   have hx:=hM.p _ (qc9 (show i<ps.length by omega) (Ty.dflt ty101))
   have bad:∃ r:Bool,(some false:Option Bool)=some r∧(r=true→goodM vs ps):=⟨false,rfl,fun h=>by cases h⟩
   show ∃ r,T56 Ops.std _ _ _ _ vs ps ts _ some _=some r∧_
   unfold T56
   simp only [qah,qaj,qan,qaa,qaf,mt,List.length_cons,List.length_nil]
   rw [if_pos (by omega),if_pos (by omega),if_pos (by omega),qa2 _ (by have:=hx.1;omega),ob_s]
   cases isWordP (ps.getD i (Ty.dflt ty101)).1 with
   | false=>exact bad
   | true=>
   simp only [Bool.not_true,cond_false]
   by_cases c1:(((ps.getD i (Ty.dflt ty101)).2.length:Nat):Int)<1
   ·rw [if_pos c1];exact bad
   ·rw [if_neg c1]
    by_cases c2:(6:Int)<(((ps.getD i (Ty.dflt ty101)).2.length:Nat):Int)
    ·rw [if_pos c2];exact bad
    ·rw [if_neg c2]
     obtain ⟨x,x1⟩:=twice_ok (ps.getD i (Ty.dflt ty101)).2 (by omega)
     rw [x1,ob_s]
     cases x with
     | true=>exact bad
     | false=>
     simp only [cond_false]
     obtain ⟨m,rfl⟩:∃ m,n=m+1:=⟨n-1,by omega⟩
     have h16:∀ vn pn nm locs,rmR vs ps ts (m+1) (.l1016 i vn pn nm locs)=rmR vs ps ts m (.l2 i 0 vn pn nm locs):=fun _ _ _ _=>rfl
     obtain ⟨r,r1,r2⟩:=rm_l2 (ts:=ts) (fun r=>r=true→goodM vs ps) (fun h=>by cases h) i (by omega) vn (pn++[(ps.getD i (Ty.dflt ty101)).1]) (ps.getD i (Ty.dflt ty101)).1 (ps.getD i (Ty.dflt ty101)).2 (by omega) hx.2.2 (12*t+101)
      (fun k hkk=>rm_l1 hv t (i+1) k vn (pn++[(ps.getD i (Ty.dflt ty101)).1]) (by omega) (by omega) h1 (by simp;omega) (take_ext (by omega) (Ty.dflt ty101) hk ⟨by omega,by omega⟩)) _ 0 m (Nat.zero_add _) (by omega)
     exact ⟨r,(h16 _ _ _ _).trans r1,r2⟩
include hM in
theorem rm_l0:∀ (t i n:Nat) (vn:List (List UInt8)),i+t=vs.length→2*t+70000<n→vn.length=i→(∀ v∈vs.take i,okVar v)→∃ r,rmR vs ps ts n (.l0 i vn)=some r∧(r=true→goodM vs ps)
 | t,i,0,vn,hi,hn,h1,hk=>by omega
 | 0,i,n+1,vn,hi,hn,h1,hk=>by
   have hpl:=hM.pl
   show ∃ r,T56 Ops.std _ _ _ _ vs ps ts _ some _=some r∧_
   unfold T56
   simp only [qah,qaa]
   rw [if_neg (by omega)]
   rw [List.take_of_length_le (by omega)] at hk
   exact rm_l1 hM (fun _=>hk) ps.length 0 n vn [] (by omega) (by omega) (by omega) rfl (fun p h=>by simp at h)
 | t+1,i,n+1,vn,hi,hn,h1,hk=>by
   have hvl:=hM.vl
   obtain ⟨m,rfl⟩:∃ m,n=m+1:=⟨n-1,by omega⟩
   have h04:∀ vn,rmR vs ps ts (m+1) (.l1004 i vn)=rmR vs ps ts m (.l0 ((i+1:Nat):Int) vn):=fun vn=>by
    show T56 Ops.std _ _ _ _ vs ps ts _ some _=_
    unfold T56
    simp only [show IntKind.wrap IntKind.i64 ((i:Int)+1)=((i+1:Nat):Int) from qag (by omega)]
   have hx:=hM.v _ (qc9 (show i<vs.length by omega) (Ty.dflt ty97))
   have bad:∃ r:Bool,(some false:Option Bool)=some r∧(r=true→goodM vs ps):=⟨false,rfl,fun h=>by cases h⟩
   have ih:=rm_l0 t (i+1) m
   show ∃ r,T56 Ops.std _ _ _ _ vs ps ts _ some _=some r∧_
   unfold T56
   obtain ⟨x,hxe⟩:∃ x,vs.getD i (Ty.dflt ty97)=x:=⟨_,rfl⟩
   rw [hxe] at hx
   simp only [qah,qaj,qan,qaa,qaf,mt,List.length_cons,List.length_nil,hxe,w999_ok,ob_s]
   rw [if_pos (by omega),if_pos (by omega),if_pos (by omega),qa2 _ (by omega),ob_s]
   cases isWordP x.1 with
   | false=>exact bad
   | true=>
   simp only [Bool.not_true,cond_false,qaw,qaa]
   by_cases c1:x.2.2.2<x.2.1
   ·rw [if_pos c1];exact bad
   ·rw [if_neg c1]
    by_cases c2:x.2.2.1<x.2.2.2
    ·rw [if_pos c2];exact bad
    ·rw [if_neg c2]
     by_cases c3:-999≤x.2.1∧x.2.1≤999
     ·rw [if_neg (fun h=>h c3)]
      by_cases c4:-999≤x.2.2.1∧x.2.2.1≤999
      ·rw [if_neg (fun h=>h c4)]
       obtain ⟨r,r1,r2⟩:=ih (vn++[x.1]) (by omega) (by omega) (by simp;omega) (take_ext (by omega) (Ty.dflt ty97) hk (by rw [hxe];exact ⟨by omega,by omega,c3.1,c4.2⟩))
       exact ⟨r,(h04 _).trans r1,r2⟩
      ·rw [if_pos c4];exact bad
     ·rw [if_pos c3];exact bad
include hM in
theorem rightModel_ok:∃ r,M56 vs ps ts=some r∧(r=true→goodM vs ps):=by
 have hvl:=hM.vl
 show ∃ r,T56 Ops.std M62 M90 M91 M92 vs ps ts (rmR vs ps ts 1000000) some none=some r∧_
 unfold T56
 exact rm_l0 hM vs.length 0 1000000 [] (by omega) (by omega) rfl (fun v h=>by simp at h)
end
theorem smallM_nil:smallM [] [] []:=⟨by simp,fun v h=>(by cases h),by simp,fun v h=>(by cases h),by simp,fun v h=>by cases h⟩
def rightOr (vs:List Vrb) (ps:List Pcs) (ts:List Trn):Prop:=smallM vs ps ts∧((M56 vs ps ts=some true∧goodM vs ps)∨(vs=[]∧ps=[]∧ts=[]))
theorem qe8:rightOr [] [] []:=⟨smallM_nil,.inr ⟨rfl,rfl,rfl⟩⟩
noncomputable abbrev pmR (s:List UInt8):=R23 M51 M52 M53 M55 M54 M56 s
structure soFar (vs:List Vrb) (ps:List Pcs) (ts:List Trn) (i:Nat):Prop where
 vl:vs.length≤i
 v:∀ v∈vs,v.1.length≤60000
 pl:ps.length≤i
 p:∀ p∈ps,p.1.length≤60000∧p.2.length≤60001∧okL 60000 p.2
 tl:ts.length≤i
 t:∀ t∈ts,okTr t
theorem mem_app {α:Type} {P:α→Prop} {l:List α} {x:α} (h:∀ y∈l,P y) (hx:P x):∀ y∈l++[x],P y:=fun y hy=>by
 rcases List.mem_append.1 hy with hy | hy
 ·exact h y hy
 ·simp only [List.mem_singleton] at hy;rw [hy];exact hx
theorem pm_loop (s:List UInt8) (L:List (List UInt8)) (hL:L.length≤5001) (hk:okL 5000 L):∀ (t i n:Nat) (st:Int) (vs:List Vrb) (ps:List Pcs) (ts:List Trn),i+t=L.length→t<n→soFar vs ps ts i→
  ∃ vs' ps' ts' e x,pmR s n (.l0 st i L vs ps ts)=some (vs',ps',ts',e,x)∧rightOr vs' ps' ts'
 | t,i,0,st,vs,ps,ts,hi,hn,hs=>by omega
 | 0,i,n+1,st,vs,ps,ts,hi,hn,hs=>by
   have bad:∃ vs' ps' ts' e x,(some (([]:List Vrb),([]:List Pcs),([]:List Trn),(2:Int),(0:Int)))=some (vs',ps',ts',e,x)∧rightOr vs' ps' ts':=⟨_,_,_,_,_,rfl,qe8⟩
   have hM:smallM vs ps ts:=⟨by have:=hs.vl;omega,hs.v,by have:=hs.pl;omega,hs.p,by have:=hs.tl;omega,hs.t⟩
   show ∃ vs' ps' ts' e x,T23 Ops.std _ _ _ _ _ _ s _ some _=some (vs',ps',ts',e,x)∧_
   unfold T23
   simp only [qah,qaa]
   rw [if_neg (by omega)]
   obtain ⟨r,r1,r2⟩:=rightModel_ok hM
   rw [r1,ob_s]
   cases r with
   | false=>exact bad
   | true=>exact ⟨_,_,_,_,_,rfl,hM,.inl ⟨r1,r2 rfl⟩⟩
 | t+1,i,n+1,st,vs,ps,ts,hi,hn,hs=>by
   have ih:=fun st vs ps ts=>pm_loop s L hL hk t (i+1) n st vs ps ts (by omega) (by omega)
   have hmono:soFar vs ps ts (i+1):=⟨by have:=hs.vl;omega,hs.v,by have:=hs.pl;omega,hs.p,by have:=hs.tl;omega,hs.t⟩
   have bad:∀ k:Int,∃ vs' ps' ts' e x,(some (([]:List Vrb),([]:List Pcs),([]:List Trn),(2:Int),k))=some (vs',ps',ts',e,x)∧rightOr vs' ps' ts':=fun k=>⟨_,_,_,_,_,rfl,qe8⟩
   have hvl:=hs.vl
   have hpl:=hs.pl
   have htl:=hs.tl
   show ∃ vs' ps' ts' e x,T23 Ops.std _ _ _ _ _ _ s _ some _=some (vs',ps',ts',e,x)∧_
   unfold T23
   have hlen:(L.getD i (Ty.dflt ty9)).length≤5000:=hk.get i
   simp only [qah,qaj,qan,qaw,qaa,qaf,mt,List.length_cons,List.length_nil,show IntKind.wrap IntKind.i64 ((i:Int)+1)=((i+1:Nat):Int) from qag (by omega)]
   rw [if_pos (by omega),if_pos (by omega)]
   cases (L.getD i (Ty.dflt ty9)) == ([]:List UInt8) with
   | true=>exact ih st vs ps ts hmono
   | false=>
   simp only [cond_false]
   rw [if_pos (by omega)]
   obtain ⟨w,w1,w2,w3⟩:=words_ok (L.getD i (Ty.dflt ty9)) (by omega)
   rw [w1,ob_s]
   have w3':okL 60000 w:=fun x hx=>by have:=w3 x hx;omega
   by_cases h0:(0:Int)<((w.length:Nat):Int)
   ·rw [if_pos h0,if_pos (by omega)]
    cases (w.getD (Int.toNat 0) (Ty.dflt ty9)) == ([118,97,114]:List UInt8) with
    | true=>
      simp only [cond_true]
      obtain ⟨nm,lo,hi',ini,ok,v1,v2⟩:=parseVar_ok (List.drop (Int.toNat 1) (List.take w.length w)) 60000 (fun x hx=>w3' x (List.mem_of_mem_take (List.mem_of_mem_drop hx)))
      rw [if_pos (by omega),v1,ob_s]
      dsimp only
      rw [if_pos (by omega)]
      cases ok with
      | false=>exact bad _
      | true=>
      simp only [Bool.not_true,cond_false]
      split
      ·exact bad _
      ·exact ih _ _ _ _ ⟨by simp;omega,mem_app hs.v v2,by omega,hs.p,by omega,hs.t⟩
    | false=>
    simp only [cond_false]
    cases (w.getD (Int.toNat 0) (Ty.dflt ty9)) == ([112,114,111,99]:List UInt8) with
    | true=>
      simp only [cond_true]
      by_cases h1:(1:Int)<((w.length:Nat):Int)
      ·rw [if_pos h1,if_pos (by omega),if_pos (by omega),if_pos (by omega),if_neg (fun h=>h h1)]
       split
       ·exact bad _
       ·exact ih _ _ _ _ ⟨by omega,hs.v,by simp;omega,mem_app hs.p ⟨w3'.get (Int.toNat 1),by simp;omega,fun x hx=>w3' x (List.mem_of_mem_take (List.mem_of_mem_drop hx))⟩,by omega,hs.t⟩
      ·rw [if_neg h1,if_pos h1];exact bad _
    | false=>
    simp only [cond_false]
    cases (w.getD (Int.toNat 0) (Ty.dflt ty9)) == ([116,114,97,110,115]:List UInt8) with
    | true=>
      simp only [cond_true]
      obtain ⟨r,r1,r2⟩:=skip_ok (L.getD i (Ty.dflt ty9)) (by omega) 1 (by omega)
      have r1':M55 (L.getD i (Ty.dflt ty9)) 1=some r:=r1
      obtain ⟨id,a,b,c,d,g,ef,ok,t1,t2⟩:=parseTrans_ok r (by omega)
      rw [if_pos (by omega),r1',ob_s,t1,ob_s]
      dsimp only
      rw [if_pos (by omega)]
      cases ok with
      | false=>exact bad _
      | true=>
      simp only [Bool.not_true,cond_false]
      split
      ·exact bad _
      ·exact ih _ _ _ _ ⟨by omega,hs.v,by omega,hs.p,by simp;omega,mem_app hs.t t2⟩
    | false=>exact bad _
   ·rw [if_neg h0];exact bad _
theorem parseModel_ok (s:List UInt8) (hs:s.length≤5000):∃ vs ps ts e x,M23 s=some (vs,ps,ts,e,x)∧rightOr vs ps ts:=by
 show ∃ vs ps ts e x,T23 Ops.std M51 M52 M53 M55 M54 M56 s (pmR s 1000000) some none=some (vs,ps,ts,e,x)∧_
 unfold T23
 simp only [qah,qaa]
 rw [if_neg (by omega)]
 obtain ⟨L,l1,l2,l3,l4⟩:=cut_ok s (by omega) 10
 rw [l1,ob_s]
 exact pm_loop s L (by omega) (fun x hx=>by have:=l4 x hx;omega) L.length 0 1000000 0 [] [] [] (by omega) (by omega) ⟨by simp,fun v h=>(by cases h),by simp,fun v h=>(by cases h),by simp,fun v h=>by cases h⟩
theorem Model_ok2 (p0 p1:Int) (p2:List (List Int)):∃ vs ps ts,M8 p0 p1 p2=some (vs,ps,ts)∧rightOr vs ps ts:=by
 obtain ⟨s,s1,s2⟩:=Text_ok p0 p1 p2
 obtain ⟨vs,ps,ts,e,x,h1,h2⟩:=parseModel_ok s s2
 refine ⟨vs,ps,ts,?_,h2⟩
 show T8 Ops.std M24 M23 p0 p1 p2 some=_
 unfold T8
 rw [s1,ob_s,h1,ob_s]
theorem goodM_nil:goodM [] []:=⟨by simp,fun v h=>(by cases h),by simp,fun p h=>by cases h⟩
theorem rightOr.good {vs:List Vrb} {ps:List Pcs} {ts:List Trn} (h:rightOr vs ps ts):goodM vs ps:=by
 rcases h.2 with h | ⟨rfl,rfl,rfl⟩
 ·exact h.2
 ·exact goodM_nil
noncomputable def knB (vs:List Vrb) (ps:List Pcs) (ts:List Trn) (e:List Trm):Bool:=(M32 vs ps ts e).getD false
section
variable {vs:List Vrb} {ps:List Pcs} {ts:List Trn}
end
section
variable {vs:List Vrb} {ps:List Pcs} (ts:List Trn)
noncomputable abbrev ixV (vs:List Vrb):=R97 M98 vs
theorem ixV_loop (hv:vs.length≤100000) (s:List UInt8):∀ (t i n:Nat),i+t=vs.length→t<n→∃ r,ixV vs s n (.l0 (vs.length:Nat) i s)=some (r,s)∧R66 vs ps ts s n (.l0 i)=some r
 | t,i,0,hi,hn=>by omega
 | 0,i,n+1,hi,hn=>by
   show ∃ r,T97 Ops.std _ vs s _ some _=some (r,s)∧T66 Ops.std vs ps ts s _ some _=some r
   unfold T97 T66
   simp only [qah,qaa]
   rw [if_neg (by omega),if_neg (by omega)]
   exact ⟨_,rfl,rfl⟩
 | t+1,i,n+1,hi,hn=>by
   have ih:=ixV_loop hv s t (i+1) n (by omega) (by omega)
   have hc:∀ v:Vrb,M98 v.1 v.2.1 v.2.2.1 v.2.2.2 s=some (v.1 == s,s):=fun v=>rfl
   show ∃ r,T97 Ops.std _ vs s _ some _=some (r,s)∧T66 Ops.std vs ps ts s _ some _=some r
   unfold T97 T66
   simp only [qah,qaj,qaa,qaf,show IntKind.wrap IntKind.i64 ((i:Int)+1)=((i+1:Nat):Int) from qag (by omega)]
   rw [if_pos (by omega),if_pos (by omega),if_pos (by omega),if_pos (by omega),hc,ob_s]
   dsimp only
   cases (vs.getD i (Ty.dflt ty97)).1 == s with
   | true=>exact ⟨_,rfl,rfl⟩
   | false=>exact ih
theorem variable_eq (hv:vs.length≤100000) (s:List UInt8):M64 vs ps ts s=M66 vs ps ts s:=by
 obtain ⟨r,h1,h2⟩:=ixV_loop (ps:=ps) ts hv s vs.length 0 1000000 (by omega) (by omega)
 have e1:M97 vs s=some (r,s):=by
  show T97 Ops.std M98 vs s (ixV vs s 1000000) some none=_
  unfold T97
  exact h1
 have e2:M66 vs ps ts s=some r:=by
  show T66 Ops.std vs ps ts s (R66 vs ps ts s 1000000) some none=_
  unfold T66
  exact h2
 show T64 Ops.std M98 M97 vs ps ts s some=_
 unfold T64
 rw [e1,ob_s,e2]
noncomputable abbrev ixP (ps:List Pcs):=R99 M100 ps
theorem ixP_loop (hv:ps.length≤100000) (s:List UInt8):∀ (t i n:Nat),i+t=ps.length→t<n→∃ r,ixP ps s n (.l0 (ps.length:Nat) i s)=some (r,s)∧R68 vs ps ts s n (.l0 i)=some r
 | t,i,0,hi,hn=>by omega
 | 0,i,n+1,hi,hn=>by
   show ∃ r,T99 Ops.std _ ps s _ some _=some (r,s)∧T68 Ops.std vs ps ts s _ some _=some r
   unfold T99 T68
   simp only [qah,qaa]
   rw [if_neg (by omega),if_neg (by omega)]
   exact ⟨_,rfl,rfl⟩
 | t+1,i,n+1,hi,hn=>by
   have ih:=ixP_loop hv s t (i+1) n (by omega) (by omega)
   have hc:∀ v:Pcs,M100 v.1 v.2 s=some (v.1 == s,s):=fun v=>rfl
   show ∃ r,T99 Ops.std _ ps s _ some _=some (r,s)∧T68 Ops.std vs ps ts s _ some _=some r
   unfold T99 T68
   simp only [qah,qaj,qaa,qaf,show IntKind.wrap IntKind.i64 ((i:Int)+1)=((i+1:Nat):Int) from qag (by omega)]
   rw [if_pos (by omega),if_pos (by omega),if_pos (by omega),if_pos (by omega),hc,ob_s]
   dsimp only
   cases (ps.getD i (Ty.dflt ty101)).1 == s with
   | true=>exact ⟨_,rfl,rfl⟩
   | false=>exact ih
theorem ixS_loop (hl:okLocs ps) (p:Nat) (hp:p<ps.length) (s:List UInt8):∀ (t i n:Nat),i+t=(ps.getD p (Ty.dflt ty101)).2.length→t<n→
  R101 (ps.getD p (Ty.dflt ty101)).2 s n (.l0 ((ps.getD p (Ty.dflt ty101)).2.length:Nat) i)=R67 vs ps ts p s n (.l0 i)
 | t,i,0,hi,hn=>by omega
 | 0,i,n+1,hi,hn=>by
   show T101 Ops.std _ s _ some _=T67 Ops.std vs ps ts p s _ some _
   unfold T101 T67
   simp only [qah,qaj,qaa,qaf]
   rw [if_neg (by omega),if_pos (by omega),if_neg (by omega)]
 | t+1,i,n+1,hi,hn=>by
   have ih:=ixS_loop hl p hp s t (i+1) n (by omega) (by omega)
   have hg:=hl.get p hp
   show T101 Ops.std _ s _ some _=T67 Ops.std vs ps ts p s _ some _
   unfold T101 T67
   simp only [qah,qaj,qaa,qaf,show IntKind.wrap IntKind.i64 ((i:Int)+1)=((i+1:Nat):Int) from qag (by omega)]
   rw [if_pos (by omega),if_pos (by omega),if_pos (by omega),if_pos (by omega),if_pos (by omega),if_pos (by omega)]
   rw [show (s == (ps.getD p (Ty.dflt ty101)).2.getD i (Ty.dflt Ty.str))=((ps.getD p (Ty.dflt ty101)).2.getD i (Ty.dflt Ty.str) == s) from Bool.beq_comm]
   generalize ((ps.getD p (Ty.dflt ty101)).2.getD i (Ty.dflt Ty.str) == s)=b
   cases b with
   | true=>rfl
   | false=>exact ih
theorem place_eq (hg:smallG vs ps) (s l:List UInt8):∃ q r,M68 vs ps ts s=some q∧M67 vs ps ts q l=some r∧M65 vs ps ts s l=some (q,r):=by
 obtain ⟨q,h1,h2⟩:=ixP_loop (vs:=vs) ts hg.p s ps.length 0 1000000 (by omega) (by have:=hg.p;omega)
 have e1:M99 ps s=some (q,s):=by
  show T99 Ops.std M100 ps s (ixP ps s 1000000) some none=_
  unfold T99
  exact h1
 have e2:M68 vs ps ts s=some q:=by
  show T68 Ops.std vs ps ts s (R68 vs ps ts s 1000000) some none=_
  unfold T68
  exact h2
 obtain ⟨q',q1,q2⟩:=qdv vs ps ts hg.p s
 have:q'=q:=by rw [e2] at q1;exact (Option.some.inj q1).symm
 subst this
 obtain ⟨r,r1,_⟩:=qei vs ps ts hg.l q' q2 l
 refine ⟨q',r,e2,r1,?_⟩
 show T65 Ops.std M100 M99 M101 vs ps ts s l some=_
 unfold T65
 rw [e1,ob_s]
 simp only [qah,qaj,qaa]
 rcases q2 with rfl | ⟨k,hk,rfl⟩
 ·rw [if_pos (by omega)]
  have:M67 vs ps ts (-1) l=some (-1):=by
   show T67 Ops.std vs ps ts (-1) l (R67 vs ps ts (-1) l 1000000) some none=_
   unfold T67
   simp only [qah,qaa]
   rw [if_pos (by omega)]
  rw [this] at r1
  rw [←Option.some.inj r1]
 ·rw [if_neg (by omega),if_pos (by omega),qaf]
  have e3:M101 (ps.getD k (Ty.dflt ty101)).2 l=M67 vs ps ts (k:Int) l:=by
   show T101 Ops.std (ps.getD k (Ty.dflt ty101)).2 l (R101 (ps.getD k (Ty.dflt ty101)).2 l 1000000) some none=T67 Ops.std vs ps ts (k:Int) l (R67 vs ps ts (k:Int) l 1000000) some none
   unfold T101 T67
   simp only [qah,qaa]
   rw [if_neg (by omega)]
   exact ixS_loop (vs:=vs) ts hg.l k hk l _ 0 1000000 (Nat.zero_add _) (by have:=hg.l.get k hk;omega)
  rw [e3,r1,ob_s]
noncomputable abbrev kxP (vs:List Vrb) (ps:List Pcs) (ts:List Trn) (e:List Trm):=R31 M64 M65 M26 vs ps ts e
noncomputable abbrev kxR (vs:List Vrb) (ps:List Pcs) (ts:List Trn) (e:List Trm):=R32 M66 M68 M67 M28 vs ps ts e
theorem qe9 (hg:smallG vs ps) (e:List Trm) (he:shortE e):∀ (t i n:Nat),i+t=e.length→t<n→kxP vs ps ts e n (.l0 (e.length:Nat) i)=kxR vs ps ts e n (.l0 i)
 | t,i,0,hi,hn=>by omega
 | 0,i,n+1,hi,hn=>by
   show T31 Ops.std _ _ _ vs ps ts e _ some _=T32 Ops.std _ _ _ _ vs ps ts e _ some _
   unfold T31 T32
   simp only [qah,qaa]
   rw [if_neg (by omega),if_neg (by omega),he.rtR,ob_s,qbx e (by have:=he.1;omega),ob_s]
 | t+1,i,n+1,hi,hn=>by
   have ih:=qe9 hg e he t (i+1) n (by omega) (by omega)
   have h30:=he.1
   obtain ⟨x,hx⟩:∃ x,e.getD i (Ty.dflt ty63)=x:=⟨_,rfl⟩
   obtain ⟨q,r,q1,r1,p1⟩:=place_eq ts hg x.2.2.1 x.2.2.2
   obtain ⟨v,v1,v2⟩:=qct vs ps ts hg.v x.2.2.1
   show T31 Ops.std _ _ _ vs ps ts e _ some _=T32 Ops.std _ _ _ _ vs ps ts e _ some _
   unfold T31 T32
   simp only [qah,qaj,qal,qaa,qaf,hx,variable_eq ts hg.v,show IntKind.wrap IntKind.i64 ((i:Int)+1)=((i+1:Nat):Int) from qag (by omega)]
   have hin:(0:Int)≤(i:Int)∧(i:Int)<(e.length:Int):=by omega
   simp only [if_pos hin,if_pos hin.2]
   by_cases h2:x.1=2
   ·rw [if_pos h2,if_pos h2,v1,ob_s,ob_s]
    by_cases hv:v<0
    ·rw [if_pos hv,if_pos hv]
    ·rw [if_neg hv,if_neg hv,if_neg (by omega)];exact ih
   ·rw [if_neg h2,if_neg h2]
    by_cases h3:x.1=3
    ·rw [if_pos h3,if_pos h3,p1,ob_s,q1,ob_s,r1,ob_s]
     dsimp only
     by_cases hr:r<0
     ·rw [if_pos hr,if_pos hr]
     ·rw [if_neg hr,if_neg hr];exact ih
    ·rw [if_neg h3,if_neg h3];exact ih
theorem knownP_eq (hg:smallG vs ps) (e:List Trm) (he:shortE e):M31 vs ps ts e=some (knB vs ps ts e):=by
 obtain ⟨b,hb,_⟩:=qej ts hg e he
 have:M31 vs ps ts e=M32 vs ps ts e:=by
  show T31 Ops.std M64 M65 M26 vs ps ts e (kxP vs ps ts e 1000000) some none=T32 Ops.std M66 M68 M67 M28 vs ps ts e (kxR vs ps ts e 1000000) some none
  unfold T31 T32
  exact qe9 ts hg e he e.length 0 1000000 (by omega) (by have:=he.1;omega)
 rw [this]
 unfold knB
 rw [hb];rfl
end
end Go.Proofs.YtkmpkebaloejhaaGreatDoor.Av
