/- The plain law of FormulaBack: what its twin computes answers true. Conditions: none. -/
import Derived.Test.YtkmpkebaloejhaaDoorPFormulaBacka
set_option linter.unusedSimpArgs false
set_option linter.unusedVariables false
set_option maxRecDepth 100000
namespace Go.Proofs.YtkmpkebaloejhaaDoor.Av
open Go
theorem wordLen {w:List UInt8} (h:isWordP w=true):w.length≤8:=by
 cases w with
 | nil=>simp
 | cons b r=>
   simp only [isWordP,Bool.and_eq_true,decide_eq_true_eq] at h
   simpa using h.2
theorem mayLen {t:Trm} (h:mayT t=true):t.2.2.1.length≤8∧t.2.2.2.length≤8:=by
 unfold mayT at h
 split at h
 ·simp only [Bool.and_eq_true,beq_iff_eq] at h
  rw [h.1.2,h.2];simp
 ·split at h
  ·simp only [Bool.and_eq_true,beq_iff_eq] at h
   rw [h.2];exact ⟨wordLen h.1.2,by simp⟩
  ·split at h
   ·simp only [Bool.and_eq_true] at h
    exact ⟨wordLen h.1.2,wordLen h.2⟩
   ·simp only [Bool.and_eq_true,beq_iff_eq] at h
    rw [h.1.2,h.2];simp
def dgT (n:Int):List UInt8:=(itoaF n).getD []
theorem itoa_is {n:Int} (h:0≤n∧n≤999):itoaF n=some (dgT n):=by
 unfold dgT itoaF
 rw [decide_eq_true h.1,decide_eq_true (show n<1000 by omega)]
 rfl
theorem dgT_len (n:Int):(dgT n).length≤3:=by
 unfold dgT itoaF
 cases decide (0≤n) && decide (n<1000) with
 | false=>exact Nat.zero_le _
 | true=>
   cases decide (n<10) with
   | true=>exact (show 1≤3 by decide)
   | false=>
     cases decide (n<100) with
     | true=>exact (show 2≤3 by decide)
     | false=>exact (show 3≤3 by decide)
def leafW (t:Trm):List UInt8:=if t.1=1 then dgT t.2.1 else if t.1=2 then t.2.2.1 else t.2.2.1++[64]++t.2.2.2
def brW (b:Bool) (s:List UInt8):List UInt8:=if b then [40]++s++[41] else s
def Et.prx:Et→List UInt8
 | .nul t=>leafW t
 | .un k x=>unW k++brW (decide (x.lv<6)) x.prx
 | .bi k x y=>brW (decide (x.lv<lfO (lvO k))) x.prx++opW k++brW (decide (y.lv<lvO k+1)) y.prx
theorem opW_len (k:Int):(opW k).length≤2:=by unfold opW;(repeat' split)<;>decide
theorem unW_len (k:Int):(unW k).length=1:=by unfold unW;split<;>rfl
theorem qbb (b:Bool) (s:List UInt8):(brW b s).length≤s.length+2:=by cases b<;>simp [brW]
theorem leafW_len {t:Trm} (h:mayT t=true):(leafW t).length≤17:=by
 have h8:=mayLen h
 have h3:=dgT_len t.2.1
 unfold leafW
 (repeat' split)
 ·omega
 ·omega
 ·simp;omega
theorem Et.prx_len:∀ (t:Et),t.wf→t.prx.length≤20*t.flat.length
 | .nul t,h=>by have:=leafW_len h.1;simp only [Et.prx,Et.flat,List.length_cons,List.length_nil];omega
 | .un k x,h=>by
   have h1:=x.prx_len h.2
   have h2:=qbb (decide (x.lv<6)) x.prx
   have h3:=unW_len k
   simp only [Et.prx,Et.flat,List.length_append,List.length_cons,List.length_nil]
   omega
 | .bi k x y,h=>by
   have h1:=x.prx_len h.2.1
   have h1':=y.prx_len h.2.2
   have h2:=qbb (decide (x.lv<lfO (lvO k))) x.prx
   have h2':=qbb (decide (y.lv<lvO k+1)) y.prx
   have h3:=opW_len k
   simp only [Et.prx,Et.flat,List.length_append,List.length_cons,List.length_nil]
   omega
theorem brk_prog (s:List UInt8) (n m:Int) (hs:s.length≤1000000):M52 s n m=some (brW (decide (n<m)) s):=by
 show T52 Ops.std s n m some=_
 unfold T52
 simp only [qak,qap,qaa]
 by_cases h:n<m
 ·rw [if_pos h,if_pos (by omega),if_pos (by simp;omega),decide_eq_true h];rfl
 ·rw [if_neg h,decide_eq_false h];rfl
theorem both_tab {k:Int} (h:6≤k∧k≤16) (a b:List UInt8) (la lb:Int):M53 k a la b lb=ob (M52 a la ((lfO (lvO k):Nat)-1)) fun y2=>cond (decide ((y2.length+(opW k).length)*1≤140737488355328)) (ob (M52 b lb (lvO k:Nat)) fun y3=>cond (decide (((y2++opW k).length+y3.length)*1≤140737488355328)) (some (y2++opW k++y3,((lvO k:Nat):Int)-1)) none) none:=by
 rcases qb3 h with rfl | rfl | rfl | rfl | rfl | rfl | rfl | rfl | rfl | rfl | rfl
 all_goals kernel_rfl
theorem both_prog {k:Int} (h:6≤k∧k≤16) (a b:List UInt8) (la lb:Int) (ha:a.length≤1000000) (hb:b.length≤1000000):M53 k a la b lb=some (brW (decide (la<(lfO (lvO k):Nat)-1)) a++opW k++brW (decide (lb<(lvO k:Nat))) b,((lvO k:Nat):Int)-1):=by
 have h1:=qbb (decide (la<(lfO (lvO k):Nat)-1)) a
 have h2:=qbb (decide (lb<(lvO k:Nat))) b
 have h3:=opW_len k
 rw [both_tab h,brk_prog a _ _ ha,ob_s,brk_prog b _ _ hb,ob_s,decide_eq_true (by omega),decide_eq_true (by simp only [List.length_append];omega)]
 rfl
theorem qcn {t:Trm} (h:mayT t=true) (h1:t.1=1):0≤t.2.1∧t.2.1≤999:=by
 unfold mayT at h
 rw [if_pos h1] at h
 simp only [Bool.and_eq_true,decide_eq_true_eq] at h
 exact ⟨h.1.1.1,h.1.1.2⟩
abbrev Sdt:=List UInt8×Int
noncomputable abbrev prP (e:List Trm):=R20 M22 M50 M51 M52 M53 e
section
variable {e:List Trm}
theorem prP_nul (i m:Nat) (st:List Sdt) (t:Trm) (hi:i<e.length) (hx:e.getD i (Ty.dflt ty56)=t) (ht:nulT t) (hl:e.length≤30) (hs:st.length≤100):prP e (m+1) (.l0 (e.length:Nat) i st)=prP e m (.l0 (e.length:Nat) ((i+1:Nat):Int) (st++[(leafW t,6)])):=by
 have hop:=ht.op
 obtain ⟨hm,hk⟩:=ht
 have h8:=mayLen hm
 have hU:prP e (m+1) (.l0 (e.length:Nat) i st)=T20 Ops.std M22 M50 M51 M52 M53 e (prP e m) some (some (.l0 (e.length:Nat) i st)):=rfl
 rw [hU]
 unfold T20
 have hw:IntKind.wrap IntKind.i64 ((st.length:Int)-0)=((st.length:Nat):Int):=by rw [wrap64 (by omega) (by omega)];omega
 simp only [qak,qam,qao,qap,qaa,qaf,hx,mt,List.length_cons,List.length_nil,qc0,ob_s,hop,hw,List.take_length,show IntKind.wrap IntKind.i64 ((i:Int)+1)=((i+1:Nat):Int) from qah (by omega)]
 rw [if_pos (by omega),if_pos (by omega)]
 have hin:(0:Int)≤((st.length:Nat):Int)∧((st.length:Nat):Int)<((st.length+1:Nat):Int):=by omega
 rcases hk with h1 | h2 | h3
 ·have hn:M51 t.2.1=some (dgT t.2.1):=itoa_is (qcn hm h1)
  rw [if_pos h1,hn,ob_s,if_pos hin,if_pos (by omega)]
  unfold leafW
  rw [if_pos h1]
 ·rw [if_neg (by omega),if_pos h2,if_pos hin,if_pos (by omega)]
  unfold leafW
  rw [if_neg (by omega),if_pos h2]
 ·rw [if_neg (by omega),if_neg (by omega),if_pos h3,if_pos (by omega),if_pos (by simp;omega),if_pos hin,if_pos (by omega)]
  unfold leafW
  rw [if_neg (by omega),if_neg (by omega)]
theorem prP_un (i m:Nat) (st:List Sdt) (k:Int) (s:List UInt8) (n:Int) (hi:i<e.length) (hx:e.getD i (Ty.dflt ty56)=(k,0,[],[])) (hk:k=4∨k=5) (hl:e.length≤30) (hs:st.length≤100) (hs2:s.length≤1000):prP e (m+1) (.l0 (e.length:Nat) i (st++[(s,n)]))=prP e m (.l0 (e.length:Nat) ((i+1:Nat):Int) (st++[(unW k++brW (decide (n<5)) s,5)])):=by
 have hop:=opE_un hk
 have hb:=qbb (decide (n<5)) s
 have hU:prP e (m+1) (.l0 (e.length:Nat) i (st++[(s,n)]))=T20 Ops.std M22 M50 M51 M52 M53 e (prP e m) some (some (.l0 (e.length:Nat) i (st++[(s,n)]))):=rfl
 rw [hU]
 unfold T20
 have hlen:(st++[(s,n)]).length=st.length+1:=by simp
 have hw:IntKind.wrap IntKind.i64 (((st++[(s,n)]).length:Int)-1)=((st.length:Nat):Int):=by rw [hlen,wrap64 (by omega) (by omega)];omega
 have hg:(st++[(s,n)]).getD st.length (Ty.dflt ty88)=(s,n):=qat st (s,n) [] _
 have htk:(st++[(s,n)]).take st.length=st:=List.take_left
 simp only [qak,qam,qao,qap,qaa,qaf,hx,mt,List.length_cons,List.length_nil,qc0,ob_s,hop,hw,hg,htk,brk_prog s n 5 (by omega),show IntKind.wrap IntKind.i64 ((i:Int)+1)=((i+1:Nat):Int) from qah (by omega)]
 rw [if_pos (by omega),if_pos (by omega),if_neg (by omega),if_neg (by omega),if_neg (by omega)]
 have hin:(0:Int)≤((st.length:Nat):Int)∧((st.length:Nat):Int)<(((st++[(s,n)]).length:Nat):Int):=by omega
 have hin2:(0:Int)≤((st.length:Nat):Int)∧((st.length:Nat):Int)<(((st++[(s,n)]).length+1:Nat):Int):=by omega
 rcases hk with rfl | rfl
 ·rw [if_pos rfl,if_pos hin,if_pos (by omega),if_pos hin2,if_pos (by omega)]
  rfl
 ·rw [if_neg (by decide),if_pos rfl,if_pos hin,if_pos (by omega),if_pos hin2,if_pos (by omega)]
  rfl
theorem prP_bi (i m:Nat) (st:List Sdt) (k:Int) (a b:List UInt8) (la lb:Int) (hi:i<e.length) (hx:e.getD i (Ty.dflt ty56)=(k,0,[],[])) (hk:6≤k∧k≤16) (hl:e.length≤30) (hs:st.length≤100) (ha:a.length≤1000) (hb:b.length≤1000):prP e (m+1) (.l0 (e.length:Nat) i (st++[(a,la),(b,lb)]))=prP e m (.l0 (e.length:Nat) ((i+1:Nat):Int) (st++[(brW (decide (la<(lfO (lvO k):Nat)-1)) a++opW k++brW (decide (lb<(lvO k:Nat))) b,((lvO k:Nat):Int)-1)])):=by
 have hop:=opE_bi hk
 have hU:prP e (m+1) (.l0 (e.length:Nat) i (st++[(a,la),(b,lb)]))=T20 Ops.std M22 M50 M51 M52 M53 e (prP e m) some (some (.l0 (e.length:Nat) i (st++[(a,la),(b,lb)]))):=rfl
 rw [hU]
 unfold T20
 have hlen:(st++[(a,la),(b,lb)]).length=st.length+2:=by simp
 have hw:IntKind.wrap IntKind.i64 (((st++[(a,la),(b,lb)]).length:Int)-2)=((st.length:Nat):Int):=by rw [hlen,wrap64 (by omega) (by omega)];omega
 have hw1:IntKind.wrap IntKind.i64 (((st.length:Nat):Int)+1)=((st.length+1:Nat):Int):=qah (by omega)
 have hg:(st++[(a,la),(b,lb)]).getD st.length (Ty.dflt ty88)=(a,la):=qat st (a,la) [(b,lb)] _
 have hg1:(st++[(a,la),(b,lb)]).getD (st.length+1) (Ty.dflt ty88)=(b,lb):=by
  simp
 have htk:(st++[(a,la),(b,lb)]).take st.length=st:=List.take_left
 simp only [qak,qam,qao,qap,qaa,qaf,hx,mt,List.length_cons,List.length_nil,qc0,ob_s,hop,hw,hw1,hg,hg1,htk,both_prog hk a b la lb (by omega) (by omega),show IntKind.wrap IntKind.i64 ((i:Int)+1)=((i+1:Nat):Int) from qah (by omega)]
 rw [if_pos (by omega),if_pos (by omega),if_neg (by omega),if_neg (by omega),if_neg (by omega),if_neg (by omega),if_neg (by omega),if_pos (by omega),if_pos (by omega),if_pos (by omega),if_pos (by omega)]
theorem qd9 (hl:e.length≤30):∀ (t:Et),t.wf→∀ (pre rest:List Trm) (st:List Sdt) (m:Nat),e=pre++(t.flat++rest)→st.length+t.flat.length≤40→
  prP e (m+t.flat.length) (.l0 (e.length:Nat) (pre.length:Nat) st)=prP e m (.l0 (e.length:Nat) ((pre.length+t.flat.length:Nat):Int) (st++[(t.prx,((t.lv:Nat):Int)-1)]))
 | .nul t,h,pre,rest,st,m,he,hs=>by
   have hx:e.getD pre.length (Ty.dflt ty56)=t:=by rw [he];exact qat pre t rest _
   exact prP_nul pre.length m st t (by rw [he];simp [Et.flat]) hx h hl (by omega)
 | .un k x,h,pre,rest,st,m,he,hs=>by
   have hf:(Et.un k x).flat.length=x.flat.length+1:=by simp [Et.flat]
   have he1:e=pre++(x.flat++((k,0,[],[])::rest)):=by rw [he];simp [Et.flat]
   have ih:=qd9 hl x h.2 pre _ st (m+1) he1 (by omega)
   have hel:e.length=pre.length+(x.flat.length+(rest.length+1)):=by rw [he1];simp
   have hx:e.getD (pre.length+x.flat.length) (Ty.dflt ty56)=(k,0,[],[]):=by
    rw [he1,←List.append_assoc,←List.length_append];exact qat _ _ rest _
   have hlen:=x.prx_len h.2
   rw [hf,show m+(x.flat.length+1)=m+1+x.flat.length by omega,ih,prP_un _ m st k x.prx _ (by omega) hx h.1 hl (by omega) (by omega)]
   have hd:decide (((x.lv:Nat):Int)-1<5)=decide (x.lv<6):=by congr 1;exact propext ⟨fun h=>by omega,fun h=>by omega⟩
   rw [hd]
   rfl
 | .bi k x y,h,pre,rest,st,m,he,hs=>by
   have hf:(Et.bi k x y).flat.length=x.flat.length+y.flat.length+1:=by simp [Et.flat];omega
   have he1:e=pre++(x.flat++(y.flat++((k,0,[],[])::rest))):=by rw [he];simp [Et.flat]
   have hel:e.length=pre.length+(x.flat.length+(y.flat.length+(rest.length+1))):=by rw [he1];simp
   have ih:=qd9 hl x h.2.1 pre _ st (m+1+y.flat.length) he1 (by omega)
   have ih2:=qd9 hl y h.2.2 (pre++x.flat) ((k,0,[],[])::rest) (st++[(x.prx,((x.lv:Nat):Int)-1)]) (m+1) (by rw [he1];simp) (by simp;omega)
   rw [List.length_append] at ih2
   have hx:e.getD (pre.length+x.flat.length+y.flat.length) (Ty.dflt ty56)=(k,0,[],[]):=by
    rw [he1,←List.append_assoc,←List.append_assoc,←List.length_append,←List.length_append];exact qat _ _ rest _
   have hlen:=x.prx_len h.2.1
   have hlen2:=y.prx_len h.2.2
   have hst:st++[(x.prx,((x.lv:Nat):Int)-1)]++[(y.prx,((y.lv:Nat):Int)-1)]=st++[(x.prx,((x.lv:Nat):Int)-1),(y.prx,((y.lv:Nat):Int)-1)]:=by simp
   rw [hf,show m+(x.flat.length+y.flat.length+1)=m+1+y.flat.length+x.flat.length by omega,ih,ih2,hst,prP_bi _ m st k x.prx y.prx _ _ (by omega) hx h.1 hl (by omega) (by omega) (by omega)]
   have hd:decide (((x.lv:Nat):Int)-1<(lfO (lvO k):Nat)-1)=decide (x.lv<lfO (lvO k)):=by congr 1;exact propext ⟨fun h=>by omega,fun h=>by omega⟩
   have hd2:decide (((y.lv:Nat):Int)-1<(lvO k:Nat))=decide (y.lv<lvO k+1):=by congr 1;exact propext ⟨fun h=>by omega,fun h=>by omega⟩
   rw [hd,hd2,show pre.length+x.flat.length+y.flat.length+1=pre.length+(x.flat.length+y.flat.length+1) by omega]
   rfl
end
theorem print_prog {t:Et} (h:t.wf) (hl:t.flat.length≤30):M20 t.flat=some t.prx:=by
 show T20 Ops.std M22 M50 M51 M52 M53 t.flat (prP t.flat 1000000) some none=_
 unfold T20
 rw [qep t.flat (by omega),ob_s,qes h hl]
 simp only [Bool.not_true,cond_false]
 have:=qd9 (e:=t.flat) hl t h [] [] [] (1000000-t.flat.length) (by simp) (by simp;omega)
 rw [show 1000000-t.flat.length+t.flat.length=1000000 by omega] at this
 refine Eq.trans this ?_
 obtain ⟨m,hm⟩:∃ m,1000000-t.flat.length=m+1:=⟨1000000-t.flat.length-1,by omega⟩
 rw [hm]
 have hU:∀ (i:Int) (st:List Sdt),prP t.flat (m+1) (.l0 (t.flat.length:Nat) i st)=T20 Ops.std M22 M50 M51 M52 M53 t.flat (prP t.flat m) some (some (.l0 (t.flat.length:Nat) i st)):=fun _ _=>rfl
 rw [hU]
 unfold T20
 simp only [qak,qam,qaa]
 rw [if_neg (by simp),if_pos (by simp)]
 rfl
def hdOK (s:List UInt8):Prop:=∃ (d:UInt8) (q:List UInt8),s=d::q∧d≠61∧d≠62
theorem hdOK.app {s:List UInt8} (h:hdOK s) (r:List UInt8):hdOK (s++r):=by
 obtain ⟨d,q,rfl,h⟩:=h
 exact ⟨d,q++r,rfl,h⟩
theorem lx_digits {w:List UInt8} (r:List UInt8) (hw:w≠[]) (hd:w.all digitP'=true) (hl:w.length≤3) (hr:noWord r):LexTo w r [(1,w,valW w)]:=by
 cases w with
 | nil=>exact absurd rfl hw
 | cons b w=>
   have hb:digitP' b=true:=by simp only [List.all_cons,Bool.and_eq_true] at hd;exact hd.1
   have hk:blankP b=false:=by
    have:=qbu hb
    unfold blankP
    rw [decide_eq_false (by omega),decide_eq_false (by omega),decide_eq_false (by omega)];rfl
   refine LexTo.tok ?_ hk
   have ht:(b::(w++r)).takeWhile digitP'=b::w:=by
    have:=tw_app (p:=digitP') (b::w) r hd (fun c q e=>by
     have:=hr c q e
     simp only [wordP,Bool.or_eq_false_iff] at this
     exact this.2)
    exact this
   simp only [tokS,hb,ht,if_true]
   rw [if_pos hl]
theorem lx_wrd {w:List UInt8} (r:List UInt8) (hw:isWordP w=true) (hr:noWord r):LexTo w r [(2,w,0)]:=by
 cases w with
 | nil=>cases hw
 | cons b w=>
   have h8:=wordLen hw
   simp only [List.length_cons] at h8
   simp only [isWordP,Bool.and_eq_true,decide_eq_true_eq] at hw
   obtain ⟨⟨h1,h2⟩,h3⟩:=hw
   have hn:digitP' b=false:=by
    unfold lowerP at h1
    unfold digitP'
    simp only [Bool.or_eq_true,Bool.and_eq_true,decide_eq_true_eq] at h1
    rw [Bool.and_eq_false_iff]
    simp only [decide_eq_false_iff_not]
    omega
   have hk:blankP b=false:=by
    unfold lowerP at h1
    simp only [Bool.or_eq_true,Bool.and_eq_true,decide_eq_true_eq] at h1
    unfold blankP
    rw [decide_eq_false (by omega),decide_eq_false (by omega),decide_eq_false (by omega)];rfl
   exact lx_word r h1 hn hk h2 (by omega) hr
theorem signS_free {c:UInt8} {r:List UInt8} (h:c=42∨c=43):signS (c::r)=[c]:=by
 have h2:twos.find? (fun p=>decide (1<(c::r).length) && ((c::r).take 2 == p))=none:=by
  rw [List.find?_eq_none]
  intro p hp
  simp only [twos,List.mem_cons,List.not_mem_nil,or_false] at hp
  rcases h with h | h<;>subst h<;>rcases hp with hp | hp | hp | hp | hp | hp | hp<;>subst hp<;>simp
 unfold signS
 rw [h2]
 rcases h with h | h<;>subst h<;>simp [ones]
theorem signS_min {d:UInt8} {r:List UInt8} (hd:d≠62):signS (45::d::r)=[45]:=by
 have h2:twos.find? (fun p=>decide (1<(45::d::r).length) && ((45::d::r).take 2 == p))=none:=by
  rw [List.find?_eq_none]
  intro p hp
  simp only [twos,List.mem_cons,List.not_mem_nil,or_false] at hp
  rcases hp with hp | hp | hp | hp | hp | hp | hp<;>subst hp<;>simp [hd]
 unfold signS
 rw [h2]
 simp [ones]
theorem lx_min {d:UInt8} (r:List UInt8) (hd:d≠62):LexTo [45] (d::r) [(4,[45],0)]:=LexTo.tok (s:=[]) (qci rfl rfl rfl (signS_min hd) (by simp)) rfl
theorem lx_free {c:UInt8} (r:List UInt8) (h:c=42∨c=43):LexTo [c] r [(4,[c],0)]:=by
 have hs:=signS_free (r:=r) h
 rcases h with h | h<;>subst h<;>exact LexTo.tok (s:=[]) (qci rfl rfl rfl hs (by simp)) rfl
theorem lx_op {k:Int} (hk:6≤k∧k≤16) {s:List UInt8} (hs:hdOK s):LexTo (opW k) s [(4,opW k,0)]:=by
 obtain ⟨d,q,rfl,h1,h2⟩:=hs
 rcases qb3 hk with rfl | rfl | rfl | rfl | rfl | rfl | rfl | rfl | rfl | rfl | rfl
 ·exact lx_free _ (.inl rfl)
 ·exact lx_free _ (.inr rfl)
 ·exact lx_min _ h2
 ·exact qdr _ (.inr (.inl rfl)) h1
 ·exact qb9 (p:=[60,61]) _ (by simp)
 ·exact qdr _ (.inr (.inr rfl)) h1
 ·exact qb9 (p:=[62,61]) _ (by simp)
 ·exact qb9 (p:=[61,61]) _ (by simp)
 ·exact qb9 (p:=[33,61]) _ (by simp)
 ·exact qb9 (p:=[38,38]) _ (by simp)
 ·exact qb9 (p:=[124,124]) _ (by simp)
theorem lx_un {k:Int} (hk:k=4∨k=5) {s:List UInt8} (hs:hdOK s):LexTo (unW k) s [(4,unW k,0)]:=by
 obtain ⟨d,q,rfl,h1,h2⟩:=hs
 rcases hk with rfl | rfl
 ·exact qdr _ (.inl rfl) h1
 ·exact lx_min _ h2
theorem noWord.op {k:Int} (hk:6≤k∧k≤16) (r:List UInt8):noWord (opW k++r):=by
 rcases qb3 hk with rfl | rfl | rfl | rfl | rfl | rfl | rfl | rfl | rfl | rfl | rfl<;>exact noWord.cons rfl
def Et.dx:Et→De
 | .nul t=>.nul t (leafW t)
 | .un k x=>.un k (if x.lv<6 then .bra x.dx else x.dx)
 | .bi k x y=>.bi k (if x.lv<lfO (lvO k) then .bra x.dx else x.dx) (if y.lv<lvO k+1 then .bra y.dx else y.dx)
theorem dx_lv (t:Et):t.dx.lv=t.lv:=by cases t<;>rfl
theorem dx_ok:∀ t:Et,t.wf→t.dx.ok
 | .nul t,h=>h
 | .un k x,h=>by
   have ih:=dx_ok x h.2
   have hl:=dx_lv x
   refine ⟨h.1,?_,?_⟩
   ·split
    ·show 6≤7;omega
    ·omega
   ·split<;>exact ih
 | .bi k x y,h=>by
   have ih:=dx_ok x h.2.1
   have ih2:=dx_ok y h.2.2
   have hl:=dx_lv x
   have hl2:=dx_lv y
   have h5:=lvO_le k
   have hlf:lfO (lvO k)≤7:=by unfold lfO;split<;>omega
   refine ⟨h.1,?_,?_,?_,?_⟩
   ·split
    ·show _≤7;omega
    ·omega
   ·split
    ·show _≤7;omega
    ·omega
   ·split<;>exact ih
   ·split<;>exact ih2
theorem qet:∀ t:Et,t.dx.tree=t
 | .nul t=>rfl
 | .un k x=>by
   have:(if x.lv<6 then De.bra x.dx else x.dx).tree=x.dx.tree:=by split<;>rfl
   simp only [Et.dx,De.tree,this,qet x]
 | .bi k x y=>by
   have h1:(if x.lv<lfO (lvO k) then De.bra x.dx else x.dx).tree=x.dx.tree:=by split<;>rfl
   have h2:(if y.lv<lvO k+1 then De.bra y.dx else y.dx).tree=y.dx.tree:=by split<;>rfl
   simp only [Et.dx,De.tree,h1,h2,qet x,qet y]
theorem dgT_ok:(List.range 1000).all (fun n=>decide (valW (dgT (n:Int))=(n:Int)) && ((dgT (n:Int)).all digitP' && !(dgT (n:Int)).isEmpty))=true:=by kernel_rfl
theorem dgT_is {n:Int} (h:0≤n∧n≤999):valW (dgT n)=n∧(dgT n).all digitP'=true∧dgT n≠[]:=by
 obtain ⟨k,rfl⟩:∃ k:Nat,n=(k:Int):=⟨n.toNat,by omega⟩
 have:=List.all_eq_true.1 dgT_ok k (List.mem_range.2 (by omega))
 simp only [Bool.and_eq_true,decide_eq_true_eq,Bool.not_eq_true'] at this
 exact ⟨this.1,this.2.1,fun e=>by rw [e] at this;simp at this⟩
theorem low_hd {b:UInt8} (h:lowerP b=true):b≠61∧b≠62:=by
 unfold lowerP at h
 simp only [Bool.or_eq_true,Bool.and_eq_true,decide_eq_true_eq] at h
 constructor<;>(intro e;subst e;revert h;decide)
theorem word_hd {w:List UInt8} (h:isWordP w=true):hdOK w:=by
 cases w with
 | nil=>cases h
 | cons b w=>
   simp only [isWordP,Bool.and_eq_true] at h
   exact ⟨b,w,rfl,low_hd h.1.1⟩
theorem digits_hd {w:List UInt8} (h:w.all digitP'=true) (h0:w≠[]):hdOK w:=by
 cases w with
 | nil=>exact absurd rfl h0
 | cons b w=>
   simp only [List.all_cons,Bool.and_eq_true] at h
   have:=qbu h.1
   exact ⟨b,w,rfl,fun e=>by subst e;exact absurd this (by decide),fun e=>by subst e;exact absurd this (by decide)⟩
theorem nulT_2 {t:Trm} (h:nulT t) (h2:t.1=2):isWordP t.2.2.1=true:=by
 obtain ⟨hm,_⟩:=h
 unfold mayT at hm
 rw [if_neg (by omega),if_pos h2] at hm
 simp only [Bool.and_eq_true] at hm
 exact hm.1.2
theorem qc6 {t:Trm} (h:nulT t) (h3:t.1=3):isWordP t.2.2.1=true∧isWordP t.2.2.2=true:=by
 obtain ⟨hm,_⟩:=h
 unfold mayT at hm
 rw [if_neg (by omega),if_neg (by omega),if_pos h3] at hm
 simp only [Bool.and_eq_true] at hm
 exact ⟨hm.1.2,hm.2⟩
theorem leaf_hd {t:Trm} (h:nulT t):hdOK (leafW t):=by
 unfold leafW
 split
 ·rename_i h1
  obtain ⟨d1,d2,d3⟩:=dgT_is (qcn h.1 h1)
  exact digits_hd d2 d3
 ·split
  ·rename_i h2
   exact word_hd (nulT_2 h h2)
  ·have h3:t.1=3:=by have:=h.2;omega
   exact ((word_hd (qc6 h h3).1).app _).app _
theorem leaf_lex {t:Trm} (h:nulT t) (r:List UInt8) (hr:noWord r):LexTo (leafW t) r (nulK t (leafW t)):=by
 by_cases h1:t.1=1
 ·obtain ⟨d1,d2,d3⟩:=dgT_is (qcn h.1 h1)
  have e:leafW t=dgT t.2.1:=if_pos h1
  have e2:nulK t (leafW t)=[(1,leafW t,t.2.1)]:=if_pos h1
  rw [e2,e]
  have:=lx_digits r d3 d2 (dgT_len _) hr
  rw [d1] at this
  exact this
 ·by_cases h2:t.1=2
  ·have e:leafW t=t.2.2.1:=by unfold leafW;rw [if_neg h1,if_pos h2]
   have e2:nulK t (leafW t)=[(2,t.2.2.1,0)]:=by unfold nulK;rw [if_neg h1,if_pos h2]
   rw [e2,e]
   exact lx_wrd r (nulT_2 h h2) hr
  ·have h3:t.1=3:=by have:=h.2;omega
   have e:leafW t=t.2.2.1++([64]++t.2.2.2):=by unfold leafW;rw [if_neg h1,if_neg h2,List.append_assoc]
   have e2:nulK t (leafW t)=[(2,t.2.2.1,0)]++([(4,[64],0)]++[(2,t.2.2.2,0)]):=by unfold nulK;rw [if_neg h1,if_neg h2];rfl
   rw [e2,e]
   exact (lx_wrd _ (qc6 h h3).1 (noWord.cons rfl)).app ((qca _ (by simp)).app (lx_wrd r (qc6 h h3).2 hr))
theorem brW_hd {b:Bool} {s:List UInt8} (h:hdOK s):hdOK (brW b s):=by
 cases b with
 | true=>exact ⟨40,s++[41],rfl,by decide,by decide⟩
 | false=>exact h
theorem prx_hd:∀ t:Et,t.wf→hdOK t.prx
 | .nul t,h=>leaf_hd h
 | .un k x,h=>by
   rcases h.1 with rfl | rfl<;>exact ⟨_,_,rfl,by decide,by decide⟩
 | .bi k x y,h=>((brW_hd (prx_hd x h.2.1)).app _).app _
theorem bra_lex {d:De} {s:List UInt8} {b:Prop} [Decidable b] (h:∀ r,noWord r→LexTo s r d.toks) (r:List UInt8) (hr:noWord r):LexTo (brW (decide b) s) r (if b then De.bra d else d).toks:=by
 by_cases hb:b
 ·rw [decide_eq_true hb,if_pos hb]
  have e:brW true s=[40]++(s++[41]):=by simp [brW]
  rw [e]
  exact (qca (c:=40) _ (by simp)).app ((h _ (noWord.cons rfl)).app (qca (c:=41) r (by simp)))
 ·rw [decide_eq_false hb,if_neg hb]
  exact h r hr
theorem prx_lex:∀ t:Et,t.wf→∀ r,noWord r→LexTo t.prx r t.dx.toks
 | .nul t,h,r,hr=>leaf_lex h r hr
 | .un k x,h,r,hr=>(lx_un h.1 ((brW_hd (prx_hd x h.2)).app r)).app (bra_lex (prx_lex x h.2) r hr)
 | .bi k x y,h,r,hr=>by
   have e:(Et.bi k x y).prx=brW (decide (x.lv<lfO (lvO k))) x.prx++(opW k++brW (decide (y.lv<lvO k+1)) y.prx):=by simp [Et.prx]
   have e2:(Et.bi k x y).dx.toks=(if x.lv<lfO (lvO k) then De.bra x.dx else x.dx).toks++([(4,opW k,0)]++(if y.lv<lvO k+1 then De.bra y.dx else y.dx).toks):=rfl
   rw [e,e2]
   refine (bra_lex (prx_lex x h.2.1) _ ?_).app ((lx_op h.1 ((brW_hd (prx_hd y h.2.2)).app r)).app (bra_lex (prx_lex y h.2.2) r hr))
   rw [List.append_assoc]
   exact noWord.op h.1 _
theorem preT_of:∀ (tks pre suf:List Tok),PreT (tks.map strip) (pre++(tks++suf)) pre.length
 | [],pre,suf=>trivial
 | t::tks,pre,suf=>by
   refine ⟨⟨by simp,?_⟩,?_⟩
   ·show strip (tkD (pre++t::(tks++suf)) pre.length)=strip t
    unfold tkD
    rw [qat]
   ·have:=preT_of tks (pre++[t]) suf
    rw [List.append_assoc,List.length_append] at this
    exact this
theorem lex_all {s:List UInt8} {ts:List TokS} (h:LexTo s [] ts) (hl:s.length≤60000):∃ (tks:List Tok) (x:Int),lexS s=(0,0,tks++[(5,[],0,x)])∧tks.map strip=ts:=by
 obtain ⟨f',tks,h1,h2,h3⟩:=h (s.length+1) 0 [] (by simp)
 rw [List.append_nil] at h3
 obtain ⟨g,rfl⟩:∃ g,f'=g+1:=⟨f'-1,by simp at h2;omega⟩
 refine ⟨tks,((0+s.length:Nat):Int),?_,h1⟩
 unfold Av.lexS
 rw [if_neg (by omega),h3]
 rfl
theorem De.lv_pos (d:De):1≤d.lv:=by
 cases d with
 | bi k x y=>exact (lvO_le k).1
 | nul _ _=>show 1≤7;omega
 | un _ _=>show 1≤6;omega
 | bra _=>show 1≤7;omega
theorem De.parse2 {d:De} (hd:d.ok) {s:List UInt8} {tks:List Tok} {x:Int} (h1:lexS s=(0,0,tks++[(5,[],0,x)])) (h2:tks.map strip=d.toks):ParseIs s (if 30<d.tree.flat.length then (13,0,[]) else (0,0,d.tree.flat))∨∃ a:Int,ParseIs s (13,a,[])∧30<d.tree.flat.length:=by
 have hp:=preT_of tks [] [(5,[],0,x)]
 rw [h2] at hp
 have hn:tks.length=d.toks.length:=by rw [←h2];simp
 have hend:tkD (tks++[(5,[],0,x)]) (0+d.toks.length)=(5,[],0,x):=by
  rw [Nat.zero_add,←hn]
  exact qat tks _ [] _
 have hk:(tkD (tks++[(5,[],0,x)]) (0+d.toks.length)).1=5:=by rw [hend]
 have hs0:(sgE (tks++[(5,[],0,x)]) (0+d.toks.length)).2=0:=by
  unfold sgE
  rw [if_neg (by rw [hk];decide)]
 have hr:=(De.read (l:=tks++[(5,[],0,x)]) (fun _ _=>trivial) d hd 0 hp (qc2 (by rw [hk];decide))).2.1 1 (Nat.le_refl 1) (by omega) d.lv_pos (by omega)
 by_cases h30:30<d.tree.flat.length
 ·refine .inr ⟨(tkD (tks++[(5,[],0,x)]) 0).2.2.2,.inr ⟨0,_,_,h1,hr,?_⟩,h30⟩
  have:takeR 0 (.ok (0+d.toks.length) d.tree.flat)=(0,13,[]):=if_pos h30
  rw [this]
  rfl
 ·rw [if_neg h30]
  refine .inl (.inr ⟨0,_,_,h1,hr,?_⟩)
  have:takeR 0 (.ok (0+d.toks.length) d.tree.flat)=(((0+d.toks.length:Nat):Int),0,d.tree.flat):=if_neg h30
  rw [this]
  unfold parseR
  dsimp only
  rw [if_pos rfl,qaf,if_pos hk]
theorem De.parse {d:De} (hd:d.ok) {s:List UInt8} (h:LexTo s [] d.toks) (hl:s.length≤60000):ParseIs s (if 30<d.tree.flat.length then (13,0,[]) else (0,0,d.tree.flat))∨∃ a:Int,ParseIs s (13,a,[])∧30<d.tree.flat.length:=by
 obtain ⟨tks,x,h1,h2⟩:=lex_all h hl
 exact De.parse2 hd h1 h2
def b40 (b:UInt8):Bool:=b == 40
theorem cnt_zero {w:List UInt8} (h:∀ b∈w,b≠40):w.countP b40=0:=by
 rw [List.countP_eq_zero]
 intro b hb
 simpa [b40] using h b hb
theorem dig_40 {w:List UInt8} (h:∀ b∈w,digitP' b=true):w.countP b40=0:=cnt_zero fun b hb e=>by
 have:=h b hb
 subst e
 exact absurd this (by decide)
theorem wrd_40 {w:List UInt8} (h:∀ b∈w,wordP b=true):w.countP b40=0:=cnt_zero fun b hb e=>by
 have:=h b hb
 subst e
 exact absurd this (by decide)
theorem signS_40 (s:List UInt8):(signS s).countP b40=if signS s=[40] then 1 else 0:=by
 unfold signS
 cases h:twos.find? (fun p=>decide (1<s.length) && (s.take 2 == p)) with
 | some p=>
   have hm:=List.mem_of_find?_eq_some h
   simp only [twos,List.mem_cons,List.not_mem_nil,or_false] at hm
   rcases hm with hm | hm | hm | hm | hm | hm | hm<;>subst hm<;>rfl
 | none=>
   simp only
   cases h2:ones.find? (fun b=>s.take 1 == [b]) with
   | some b=>
     have h3:=List.find?_some h2
     simp only [beq_iff_eq] at h3
     simp only [h3]
     by_cases hb:b=40
     ·subst hb;rfl
     ·simp [b40,hb]
   | none=>rfl
theorem tok_40 {s:List UInt8} {k n:Int} {w:List UInt8} (h:tokS s=some (k,w,n)) (x:Int):w.countP b40=if opnB (k,w,n,x) then 1 else 0:=by
 cases s with
 | nil=>cases h
 | cons b r=>
   simp only [tokS] at h
   split at h
   ·split at h
    ·cases h
     rw [dig_40 (qfb _)]
     rfl
    ·cases h
   ·split at h
    ·split at h
     ·cases h
      rw [wrd_40 (qfb _)]
      rfl
     ·cases h
    ·split at h
     ·rename_i hlt
      cases h
      rw [cnt_zero (fun c hc e=>by
       simp only [List.mem_singleton] at hc
       subst hc
       subst e
       exact absurd hlt (by decide))]
      rfl
     ·split at h
      ·cases h
      ·cases h
       rw [signS_40]
       unfold opnB
       simp only [decide_true,Bool.true_and,beq_iff_eq]
theorem lexGo_40:∀ (f:Nat) (s:List UInt8) (a:Nat) (out:List Tok) (e x:Int) (l:List Tok),lexGo f s a out=(e,x,l)→e=0→l.countP opnB=out.countP opnB+s.countP b40
 | 0,s,a,out,e,x,l,h,he=>by
   simp only [lexGo,Prod.mk.injEq] at h
   omega
 | f+1,[],a,out,e,x,l,h,he=>by
   simp only [lexGo,Prod.mk.injEq] at h
   obtain ⟨_,_,rfl⟩:=h
   rw [List.countP_append]
   rfl
 | f+1,b::r,a,out,e,x,l,h,he=>by
   simp only [lexGo] at h
   split at h
   ·rename_i hb
    have ih:=lexGo_40 f r (a+1) out e x l h he
    have hb40:b40 b=false:=by
     cases h40:b40 b with
     | false=>rfl
     | true=>
       unfold b40 at h40
       simp only [beq_iff_eq] at h40
       subst h40
       exact absurd hb (by decide)
    rw [ih,List.countP_cons_of_neg (by rw [hb40];decide)]
   ·split at h
    ·simp only [Prod.mk.injEq] at h
     omega
    ·rename_i k w n ht
     have h1:=tok_len ht
     have ih:=lexGo_40 f ((b::r).drop w.length) (a+w.length) (out++[(k,w,n,(a:Int))]) e x l h he
     have h4:=tok_40 ht (a:Int)
     have h5:(b::r).countP b40=w.countP b40+((b::r).drop w.length).countP b40:=by
      have e1:b::r=(b::r).take w.length++(b::r).drop w.length:=(List.take_append_drop _ _).symm
      conv=>lhs;rw [e1]
      rw [List.countP_append,h1.2.2.1]
     rw [ih,List.countP_append,h5,h4]
     cases hq:opnB (k,w,n,(a:Int))<;>simp [hq]<;>omega
theorem lexS_40 {s:List UInt8} {x:Int} {l:List Tok} (h:lexS s=(0,x,l)):l.countP opnB=s.countP b40:=by
 unfold lexS at h
 split at h
 ·cases h
 ·have:=lexGo_40 _ s 0 [] 0 x l h rfl
  simpa using this
theorem brW_40 (b:Bool) (s:List UInt8):(brW b s).countP b40=(if b then 1 else 0)+s.countP b40:=by
 cases b with
 | true=>
   simp only [brW,if_true,List.countP_append]
   have:([40]:List UInt8).countP b40=1:=rfl
   have:([41]:List UInt8).countP b40=0:=rfl
   omega
 | false=>simp [brW]
theorem op_40 {k:Int} (hk:6≤k∧k≤16):(opW k).countP b40=0:=by
 rcases qb3 hk with rfl | rfl | rfl | rfl | rfl | rfl | rfl | rfl | rfl | rfl | rfl<;>rfl
theorem word_40 {w:List UInt8} (h:isWordP w=true):w.countP b40=0:=by
 cases w with
 | nil=>rfl
 | cons b w=>
   simp only [isWordP,Bool.and_eq_true] at h
   refine wrd_40 fun c hc=>?_
   rcases List.mem_cons.1 hc with rfl | hc
   ·exact qbg h.1.1
   ·exact List.all_eq_true.1 h.1.2 c hc
theorem leaf_40 {t:Trm} (h:nulT t):(leafW t).countP b40=0:=by
 unfold leafW
 split
 ·rename_i h1
  exact dig_40 (List.all_eq_true.1 (dgT_is (qcn h.1 h1)).2.1)
 ·split
  ·rename_i h2
   exact word_40 (nulT_2 h h2)
  ·have h3:t.1=3:=by have:=h.2;omega
   rw [List.countP_append,List.countP_append,word_40 (qc6 h h3).1,word_40 (qc6 h h3).2]
   rfl
theorem prx_40:∀ t:Et,t.wf→t.prx.countP b40=t.need 1∧∀ n,n≤6→(if t.lv<n then 1 else 0)+t.prx.countP b40=t.need n
 | .nul t,h=>by
   have:=leaf_40 h
   refine ⟨this,fun n hn=>?_⟩
   show (if 7<n then 1 else 0)+(leafW t).countP b40=0
   rw [this,if_neg (by omega)]
 | .un k x,h=>by
   have ih:=(prx_40 x h.2).2 6 (Nat.le_refl 6)
   have e:(Et.un k x).prx.countP b40=x.need 6:=by
    show (unW k++brW (decide (x.lv<6)) x.prx).countP b40=_
    rw [List.countP_append,brW_40,←ih]
    have:(unW k).countP b40=0:=by rcases h.1 with rfl | rfl<;>rfl
    rw [this]
    by_cases hx:x.lv<6<;>simp [hx]
   refine ⟨e,fun n hn=>?_⟩
   show (if 6<n then 1 else 0)+_=x.need 6
   rw [if_neg (by omega),e,Nat.zero_add]
 | .bi k x y,h=>by
   have h5:=lvO_le k
   have hlf:lfO (lvO k)≤6:=by unfold lfO;split<;>omega
   have ih:=(prx_40 x h.2.1).2 (lfO (lvO k)) hlf
   have ih2:=(prx_40 y h.2.2).2 (lvO k+1) (by omega)
   have e:(Et.bi k x y).prx.countP b40=x.need (lfO (lvO k))+y.need (lvO k+1):=by
    show (brW (decide (x.lv<lfO (lvO k))) x.prx++opW k++brW (decide (y.lv<lvO k+1)) y.prx).countP b40=_
    rw [List.countP_append,List.countP_append,brW_40,brW_40,op_40 h.1,←ih,←ih2]
    by_cases hx:x.lv<lfO (lvO k)<;>by_cases hy:y.lv<lvO k+1<;>simp [hx,hy]
   refine ⟨?_,fun n hn=>?_⟩
   ·rw [e]
    simp only [Et.need]
    rw [if_neg (by omega),Nat.zero_add]
   ·rw [e]
    simp only [Et.need]
    show (if lvO k<n then 1 else 0)+_=_
    omega
theorem prx_ascii:∀ t:Et,t.wf→∀ b∈t.prx,b.toNat<128:=by
 have wd:∀ {w:List UInt8},isWordP w=true→∀ b∈w,b.toNat<128:=fun {w} h b hb=>by
  have hw:wordP b=true:=by
   cases w with
   | nil=>cases hb
   | cons c w=>
     simp only [isWordP,Bool.and_eq_true] at h
     rcases List.mem_cons.1 hb with rfl | hb
     ·exact qbg h.1.1
     ·exact List.all_eq_true.1 h.1.2 b hb
  unfold wordP lowerP digitP' at hw
  simp only [Bool.or_eq_true,Bool.and_eq_true,decide_eq_true_eq] at hw
  omega
 have br:∀ {c:Bool} {s:List UInt8},(∀ b∈s,b.toNat<128)→∀ b∈brW c s,b.toNat<128:=fun {c s} h b hb=>by
  cases c with
  | true=>
    simp only [brW,if_true,List.mem_append,List.mem_singleton] at hb
    rcases hb with (rfl | hb) | rfl
    ·decide
    ·exact h b hb
    ·decide
  | false=>exact h b hb
 intro t
 induction t with
 | nul t=>
   intro h b hb
   have hb:b∈leafW t:=hb
   unfold leafW at hb
   split at hb
   ·rename_i h1
    have:=qbu (List.all_eq_true.1 (dgT_is (qcn h.1 h1)).2.1 b hb)
    omega
   ·split at hb
    ·rename_i h2
     exact wd (nulT_2 h h2) b hb
    ·have h3:t.1=3:=by have:=h.2;omega
     simp only [List.mem_append,List.mem_singleton] at hb
     rcases hb with (hb | rfl) | hb
     ·exact wd (qc6 h h3).1 b hb
     ·decide
     ·exact wd (qc6 h h3).2 b hb
 | un k x ih=>
   intro h b hb
   simp only [Et.prx,List.mem_append] at hb
   rcases hb with hb | hb
   ·rcases h.1 with rfl | rfl
    ·have:b=33:=by simpa [unW] using hb
     subst this;decide
    ·have:b=45:=by simpa [unW] using hb
     subst this;decide
   ·exact br (ih h.2) b hb
 | bi k x y ihx ihy=>
   intro h b hb
   simp only [Et.prx,List.mem_append] at hb
   rcases hb with (hb | hb) | hb
   ·exact br (ihx h.2.1) b hb
   ·have:∀ c∈opW k,c.toNat<128:=by
     rcases qb3 h.1 with rfl | rfl | rfl | rfl | rfl | rfl | rfl | rfl | rfl | rfl | rfl<;>decide
    exact this b hb
   ·exact br (ihy h.2.2) b hb
inductive Df where
 | con (b:Bool)
 | atm (d:De)
 | un (k:Int) (x:Df)
 | bi (k:Int) (x y:Df)
 | bra (x:Df)
def conK (b:Bool):Int:=if b then 1 else 2
def Df.tree:Df→Fm Trm
 | .con b=>.nul (conK b,[])
 | .atm d=>.nul (3,d.tree.flat)
 | .un k x=>.un (k,[]) x.tree
 | .bi k x y=>.bi (k,[]) x.tree y.tree
 | .bra x=>x.tree
def Df.lv:Df→Nat
 | .un _ _=>5
 | .bi k _ _=>lvK k
 | _=>6
def lfK (n:Nat):Nat:=if n=1∨n=4 then n+1 else n
def rtK (n:Nat):Nat:=if n=1∨n=4 then n else n+1
def Df.ok:Df→Prop
 | .con _=>True
 | .atm d=>d.ok∧d.tree.flat.length≤30
 | .un k x=>unaK k∧5≤x.lv∧x.ok
 | .bi k x y=>binK k∧lfK (lvK k)≤x.lv∧rtK (lvK k)≤y.lv∧x.ok∧y.ok
 | .bra x=>x.ok
def Df.toks:Df→List TokS
 | .con b=>[(2,conW b,0)]
 | .atm d=>(4,[91],0)::(d.toks++[(4,[93],0)])
 | .un k x=>unaT k::x.toks
 | .bi k x y=>x.toks++(binT k::y.toks)
 | .bra x=>(4,[40],0)::(x.toks++[(4,[41],0)])
theorem lvK_le {k:Int}:1≤lvK k∧lvK k≤4:=by unfold lvK;(repeat' split)<;>omega
theorem Df.lv_le:∀ d:Df,1≤d.lv∧d.lv≤6
 | .con _=>⟨by show 1≤6;omega,Nat.le_refl 6⟩
 | .atm _=>⟨by show 1≤6;omega,Nat.le_refl 6⟩
 | .un _ _=>⟨by show 1≤5;omega,by show 5≤6;omega⟩
 | .bi k _ _=>⟨lvK_le.1,by have:=lvK_le (k:=k);show lvK k≤6;omega⟩
 | .bra _=>⟨by show 1≤6;omega,Nat.le_refl 6⟩
theorem qeu {l:List Tok} {a:Nat} {k n:Int} {w:List UInt8} (h:strip (tkD l a)=(k,w,n)) (hk:k≠1):txF l a=w:=by
 unfold txF
 rw [if_pos (by rw [tkS_1 h];exact hk),tkS_2 h]
theorem bin_sg {k:Int} (hk:binK k):(∀ m,sgF m (binT k).2.1=if m=lvK k then k else 0)∧(binT k).1≠1:=by
 have aux:∀ (w:List UInt8) (n:Nat) (k:Int),(sgF 1 w=if 1=n then k else 0)→(sgF 2 w=if 2=n then k else 0)→(sgF 3 w=if 3=n then k else 0)→(sgF 4 w=if 4=n then k else 0)→(sgF 5 w=if 5=n then k else 0)→(1≤n∧n≤5)→∀ m,sgF m w=if m=n then k else 0:=fun w n k h1 h2 h3 h4 h5 hn m=>by
  by_cases m1:m=1
  ·rw [m1];exact h1
  by_cases m2:m=2
  ·rw [m2];exact h2
  by_cases m3:m=3
  ·rw [m3];exact h3
  by_cases m4:m=4
  ·rw [m4];exact h4
  by_cases m5:m=5
  ·rw [m5];exact h5
  unfold sgF
  rw [if_neg m1,if_neg m2,if_neg m3,if_neg m4,if_neg m5,if_neg (by omega)]
 rcases hk with rfl | rfl | rfl | rfl | rfl
 ·exact ⟨aux _ 3 5 rfl rfl rfl rfl rfl (by omega),by decide⟩
 ·exact ⟨aux _ 2 6 rfl rfl rfl rfl rfl (by omega),by decide⟩
 ·exact ⟨aux _ 1 7 rfl rfl rfl rfl rfl (by omega),by decide⟩
 ·exact ⟨aux _ 4 9 rfl rfl rfl rfl rfl (by omega),by decide⟩
 ·exact ⟨aux _ 4 10 rfl rfl rfl rfl rfl (by omega),by decide⟩
theorem una_sg {k:Int} (hk:unaK k):sgF 5 (unaT k).2.1=k∧k≠0∧(unaT k).1≠1:=by
 rcases hk with rfl | rfl | rfl | rfl<;>exact ⟨rfl,by decide,by decide⟩
section
variable {l:List Tok}
def noS (l:List Tok) (b n:Nat):Prop:=∀ m,n≤m→m≤4→sgF m (txF l b)=0
theorem noS.le {b n m:Nat} (h:noS l b n) (hm:n≤m):noS l b m:=fun k h1 h2=>h k (by omega) h2
theorem lowF {a b:Nat} {e:List Prt}:∀ (k n:Nat),n+k≤5→1≤n→noS l b n→PF l (.lv (n+k) a) (.ok b e)→PF l (.lv n a) (.ok b e)
 | 0,n,_,_,_,h=>h
 | k+1,n,h5,h1,hs,h=>by
   have h':PF l (.lv (n+1) a) (.ok b e):=lowF k (n+1) (by omega) (by omega) (hs.le (by omega)) (by rw [show n+1+k=n+(k+1) by omega];exact h)
   have h0:=hs n (Nat.le_refl n) (by omega)
   by_cases h14:n=1∨n=4
   ·exact pf_r0 h14 h' h0
   ·exact pf_l (by omega) h' (pf_stop h0)
theorem lowT {a b m n:Nat} {e:List Prt} (h:PF l (.lv m a) (.ok b e)) (hm:m≤5) (h1:1≤n) (hn:n≤m) (hs:noS l b n):PF l (.lv n a) (.ok b e):=
 lowF (m-n) n (by omega) h1 hs (by rw [show n+(m-n)=m by omega];exact h)
theorem Df.read:∀ (d:Df),d.ok→∀ a,PreT d.toks l a→
  (6≤d.lv→PF l (.lv 6 a) (.ok (a+d.toks.length) d.tree.flat))∧
  (∀ n,1≤n→n≤5→n≤d.lv→noS l (a+d.toks.length) n→PF l (.lv n a) (.ok (a+d.toks.length) d.tree.flat))∧
  (∀ n r,(n=2∨n=3)→n≤d.lv→noS l (a+d.toks.length) (n+1)→PF l (.lp n (a+d.toks.length) d.tree.flat) r→PF l (.lv n a) r):=by
 have own:∀ {a b m:Nat} {e:List Prt},1≤m→m≤5→(noS l b m→PF l (.lv m a) (.ok b e))→(∀ n,1≤n→n≤m→noS l b n→PF l (.lv n a) (.ok b e))∧(∀ n r,(n=2∨n=3)→n<m→noS l b (n+1)→PF l (.lp n b e) r→PF l (.lv n a) r):=fun {a b m e} h1 h5 h=>
  ⟨fun n n1 n2 hs=>lowT (h (hs.le n2)) h5 n1 n2 hs,fun n r hn hlt hs hr=>pf_l hn (lowT (h (hs.le (by omega))) h5 (by omega) (by omega) hs) hr⟩
 have six:∀ {a b:Nat} {e:List Prt},sgF 5 (txF l a)=0→PF l (.lv 6 a) (.ok b e)→(∀ n,1≤n→n≤5→n≤6→noS l b n→PF l (.lv n a) (.ok b e))∧(∀ n r,(n=2∨n=3)→n≤6→noS l b (n+1)→PF l (.lp n b e) r→PF l (.lv n a) r):=fun {a b e} h0 h=>by
  obtain ⟨i1,i2⟩:=own (m:=5) (by omega) (by omega) (fun _=>pf_p0 h0 h)
  exact ⟨fun n n1 n2 _ hs=>i1 n n1 n2 hs,fun n r hn _ hs hr=>i2 n r hn (by omega) hs hr⟩
 intro d
 induction d with
 | con b=>
   intro h a hp
   have ht:txF l a=conW b:=qeu hp.1.2 (by decide)
   have h6:PF l (.lv 6 a) (.ok (a+1) [(conK b,[])]):=by
    cases b with
    | true=>exact pf_true ht
    | false=>exact pf_false ht
   obtain ⟨i1,i2⟩:=six (by rw [ht];cases b<;>rfl) h6
   exact ⟨fun _=>h6,i1,i2⟩
 | atm d=>
   intro h a hp
   obtain ⟨⟨_,p1⟩,p2⟩:=hp
   obtain ⟨p3,⟨_,p4⟩,_⟩:=PreT.app _ _ _ _ p2
   have ht:txF l a=[91]:=qeu p1 (by decide)
   have ht2:txF l (a+1+d.toks.length)=[93]:=qeu p4 (by decide)
   have hs0:sgE l (a+1+d.toks.length)=(0,0):=by
    unfold sgE
    rw [if_pos (tkS_1 p4),tkS_2 p4]
    rfl
   have hpe:=(De.read (l:=l) (fun _ _=>trivial) d h.1 (a+1) p3 (qc1 (qd1 p4) (by decide))).2.1 1 (Nat.le_refl 1) (by omega) d.lv_pos (by rw [hs0];show 0<1;omega)
   have h6:=pf_ex ht hpe
   have e:exF l a (.ok (a+1+d.toks.length) d.tree.flat)=.ok (a+1+d.toks.length+1) [(3,d.tree.flat)]:=by
    unfold exF
    dsimp only
    rw [if_neg (by have:=h.2;omega),if_pos ht2]
   rw [e] at h6
   have hlen:a+(Df.atm d).toks.length=a+1+d.toks.length+1:=by simp only [Df.toks,List.length_cons,List.length_append,List.length_nil];omega
   rw [hlen]
   obtain ⟨i1,i2⟩:=six (by rw [ht];rfl) h6
   exact ⟨fun _=>h6,i1,i2⟩
 | un k x ih=>
   intro h a hp
   obtain ⟨hk,hlv,hx⟩:=h
   obtain ⟨⟨_,p1⟩,p2⟩:=hp
   obtain ⟨u1,u2,u3⟩:=una_sg hk
   have ht:txF l a=(unaT k).2.1:=qeu (k:=(unaT k).1) (n:=(unaT k).2.2) p1 u3
   have hlen:a+(Df.un k x).toks.length=a+1+x.toks.length:=by simp only [Df.toks,List.length_cons];omega
   rw [hlen]
   have hs:sgF 5 (txF l a)=k:=by rw [ht];exact u1
   have h5:noS l (a+1+x.toks.length) 5→PF l (.lv 5 a) (.ok (a+1+x.toks.length) (Df.un k x).tree.flat):=fun hn=>by
    have:=pf_p1 (by rw [hs];exact u2) ((ih hx (a+1) p2).2.1 5 (by omega) (by omega) hlv hn)
    rw [hs] at this
    exact this
   obtain ⟨i1,i2⟩:=own (m:=5) (by omega) (by omega) h5
   refine ⟨fun h=>absurd h (by show ¬ 6≤5;omega),fun n n1 n2 _ hs=>i1 n n1 n2 hs,fun n r hn _ hs hr=>i2 n r hn (by omega) hs hr⟩
 | bra x ih=>
   intro h a hp
   obtain ⟨⟨_,p1⟩,p2⟩:=hp
   obtain ⟨p3,⟨_,p4⟩,_⟩:=PreT.app _ _ _ _ p2
   have ht:txF l a=[40]:=qeu p1 (by decide)
   have ht2:txF l (a+1+x.toks.length)=[41]:=qeu p4 (by decide)
   have hn:noS l (a+1+x.toks.length) 1:=fun m h1 h2=>by
    rw [ht2]
    match m,h1,h2 with
    | 1,_,_ | 2,_,_ | 3,_,_ | 4,_,_=>rfl
   have h6:=pf_bra ht ((ih h (a+1) p3).2.1 1 (by omega) (by omega) x.lv_le.1 hn)
   rw [if_pos ht2] at h6
   have hlen:a+(Df.bra x).toks.length=a+1+x.toks.length+1:=by simp only [Df.toks,List.length_cons,List.length_append,List.length_nil];omega
   rw [hlen]
   obtain ⟨i1,i2⟩:=six (by rw [ht];rfl) h6
   exact ⟨fun _=>h6,i1,i2⟩
 | bi k x y ihx ihy=>
   intro h a hp
   obtain ⟨hk,hlx,hly,hx,hy⟩:=h
   obtain ⟨p1,⟨_,p2⟩,p3⟩:=PreT.app _ _ _ _ hp
   obtain ⟨b1,b2⟩:=bin_sg hk
   have hlv:=lvK_le (k:=k)
   have ht:txF l (a+x.toks.length)=(binT k).2.1:=qeu (k:=(binT k).1) (n:=(binT k).2.2) p2 b2
   have hlen:a+(Df.bi k x y).toks.length=a+x.toks.length+1+y.toks.length:=by simp only [Df.toks,List.length_cons,List.length_append];omega
   have hk0:k≠0:=by rcases hk with rfl | rfl | rfl | rfl | rfl<;>decide
   rw [hlen]
   obtain ⟨_,x1,x2⟩:=ihx hx a p1
   obtain ⟨_,y1,y2⟩:=ihy hy (a+x.toks.length+1) p3
   have hsg:sgF (lvK k) (txF l (a+x.toks.length))=k:=by rw [ht,b1,if_pos rfl]
   have hno:∀ m,lvK k<m→noS l (a+x.toks.length) m:=fun m hm j h1 h2=>by rw [ht,b1,if_neg (by omega)]
   have hflat:(Df.bi k x y).tree.flat=x.tree.flat++y.tree.flat++[(sgF (lvK k) (txF l (a+x.toks.length)),[])]:=by rw [hsg];rfl
   by_cases h14:lvK k=1∨lvK k=4
   ·have e1:lfK (lvK k)=lvK k+1:=if_pos h14
    have e2:rtK (lvK k)=lvK k:=if_pos h14
    have hown:noS l (a+x.toks.length+1+y.toks.length) (lvK k)→PF l (.lv (lvK k) a) (.ok (a+x.toks.length+1+y.toks.length) (Df.bi k x y).tree.flat):=fun hn=>by
     rw [hflat]
     exact pf_r1 h14 (x1 (lvK k+1) (by omega) (by omega) (by omega) (hno _ (by omega))) (by rw [hsg];exact hk0) (y1 (lvK k) (by omega) (by omega) (by omega) hn)
    obtain ⟨i1,i2⟩:=own hlv.1 (by omega) hown
    refine ⟨fun h=>?_,fun n n1 n2 n3 hs=>i1 n n1 n3 hs,fun n r hn hle hs hr=>?_⟩
    ·have h:6≤lvK k:=h
     omega
    ·have hle:n≤lvK k:=hle
     exact i2 n r hn (by omega) hs hr
   ·have e1:lfK (lvK k)=lvK k:=if_neg h14
    have e2:rtK (lvK k)=lvK k+1:=if_neg h14
    have h23:lvK k=2∨lvK k=3:=by omega
    have hmore:∀ r,noS l (a+x.toks.length+1+y.toks.length) (lvK k+1)→PF l (.lp (lvK k) (a+x.toks.length+1+y.toks.length) (Df.bi k x y).tree.flat) r→PF l (.lv (lvK k) a) r:=fun r hn hr=>by
     rw [hflat] at hr
     exact x2 (lvK k) r h23 (by omega) (hno _ (by omega)) (pf_more (by rw [hsg];exact hk0) (y1 (lvK k+1) (by omega) (by omega) (by omega) hn) hr)
    have hown:noS l (a+x.toks.length+1+y.toks.length) (lvK k)→PF l (.lv (lvK k) a) (.ok (a+x.toks.length+1+y.toks.length) (Df.bi k x y).tree.flat):=fun hn=>
     hmore _ (hn.le (by omega)) (pf_stop (hn _ (Nat.le_refl _) hlv.2))
    obtain ⟨i1,i2⟩:=own hlv.1 (by omega) hown
    refine ⟨fun h=>?_,fun n n1 n2 n3 hs=>i1 n n1 n3 hs,fun n r hn hle hs hr=>?_⟩
    ·have h:6≤lvK k:=h
     omega
    ·have hle:n≤lvK k:=hle
     by_cases hn2:n=lvK k
     ·subst hn2
      exact hmore r hs hr
     ·exact i2 n r hn (by omega) hs hr
end
theorem Df.parse2 {d:Df} (hd:d.ok) (h24:d.tree.size≤24) {s:List UInt8} {tks:List Tok} {x:Int} (h1:lexS s=(0,0,tks++[(5,[],0,x)])) (h2:tks.map strip=d.toks):FParseIs s (0,0,d.tree.flat):=by
 have hp:=preT_of tks [] [(5,[],0,x)]
 rw [h2] at hp
 have hn:tks.length=d.toks.length:=by rw [←h2];simp
 have hend:tkD (tks++[(5,[],0,x)]) (0+d.toks.length)=(5,[],0,x):=by
  rw [Nat.zero_add,←hn]
  exact qat tks _ [] _
 have hk:(tkD (tks++[(5,[],0,x)]) (0+d.toks.length)).1=5:=by rw [hend]
 have hno:noS (tks++[(5,[],0,x)]) (0+d.toks.length) 1:=fun m _ _=>by
  have:txF (tks++[(5,[],0,x)]) (0+d.toks.length)=[]:=by
   unfold txF
   rw [hend]
   rfl
  rw [this]
  exact sgF_nil m
 have hr:=(Df.read (l:=tks++[(5,[],0,x)]) d hd 0 hp).2.1 1 (Nat.le_refl 1) (by omega) d.lv_le.1 hno
 refine .inr ⟨0,_,_,h1,hr,?_⟩
 unfold parseF
 dsimp only
 rw [if_pos hk,if_neg (by rw [d.tree.flat_len];omega)]
theorem Df.parse {d:Df} (hd:d.ok) (h24:d.tree.size≤24) {s:List UInt8} (h:LexTo s [] d.toks) (hl:s.length≤60000):FParseIs s (0,0,d.tree.flat):=by
 obtain ⟨tks,x,h1,h2⟩:=lex_all h hl
 exact Df.parse2 hd h24 h1 h2
def freeB (c:UInt8):Bool:=c == 40 || (c == 41 || (c == 42 || (c == 43 || (c == 64 || (c == 91 || (c == 93 || c == 32))))))
theorem qff {c:UInt8} (h:freeB c=true):c=40∨c=41∨c=42∨c=43∨c=64∨c=91∨c=93∨c=32:=by
 unfold freeB at h
 simpa using h
theorem digit_nf:∀ c,digitP' c=true→freeB c=false∧blankP c=false:=fun c h=>by
 have:=qbu h
 constructor
 ·cases hf:freeB c with
  | false=>rfl
  | true=>rcases qff hf with rfl | rfl | rfl | rfl | rfl | rfl | rfl | rfl<;>exact absurd this (by decide)
 ·unfold blankP
  rw [decide_eq_false (by omega),decide_eq_false (by omega),decide_eq_false (by omega)];rfl
theorem word_nf:∀ c,wordP c=true→freeB c=false∧blankP c=false:=fun c h=>by
 constructor
 ·cases hf:freeB c with
  | false=>rfl
  | true=>rcases qff hf with rfl | rfl | rfl | rfl | rfl | rfl | rfl | rfl<;>exact absurd h (by decide)
 ·unfold wordP lowerP digitP' at h
  simp only [Bool.or_eq_true,Bool.and_eq_true,decide_eq_true_eq] at h
  unfold blankP
  rw [decide_eq_false (by omega),decide_eq_false (by omega),decide_eq_false (by omega)];rfl
noncomputable def exW (e:List Trm):List UInt8:=(M20 e).getD []
theorem qfg {e:List Trm} (h:rightE e=true):∃ t:Et,t.wf∧e=t.flat∧t.flat.length≤30∧exW e=t.prx∧M20 e=some (exW e):=by
 obtain ⟨t,t1,rfl,t3⟩:=rightE_tree h
 have:=print_prog t1 t3
 have e1:exW t.flat=t.prx:=by unfold exW;rw [this];rfl
 exact ⟨t,t1,rfl,t3,e1,by rw [this,e1]⟩
def Fm.lvF:Fm Trm→Nat
 | .nul _=>6
 | .un _ _=>5
 | .bi p _ _=>lvK p.1
noncomputable def nulW (p:Prt):List UInt8:=if p.1=1 then [116,114,117,101] else if p.1=2 then [102,97,108,115,101] else [91]++exW p.2++[93]
noncomputable def Fm.prf:Fm Trm→List UInt8
 | .nul p=>nulW p
 | .un p x=>unaW p.1++brW (decide (x.lvF<5)) x.prf
 | .bi p x y=>brW (decide (x.lvF<lfK (lvK p.1))) x.prf++binW p.1++brW (decide (y.lvF<rtK (lvK p.1))) y.prf
theorem unaW_len (k:Int):(unaW k).length≤2:=by unfold unaW;(repeat' split)<;>decide
theorem binW_len (k:Int):(binW k).length≤4:=by unfold binW;(repeat' split)<;>decide
theorem opn_un {k:Int} (h:opn k=1):unaK k:=by
 unfold opn at h
 unfold unaK
 (repeat' split at h)<;>omega
theorem opn_bi {k:Int} (h:opn k=2):binK k:=by
 unfold opn at h
 unfold binK
 (repeat' split at h)<;>omega
theorem qev {k:Int} (h:opn k=0):k=1∨k=2∨k=3:=by
 unfold opn at h
 (repeat' split at h)<;>omega
theorem nulW_len {p:Prt} (h:opn p.1=0) (h3:p.1=3→rightE p.2=true):(nulW p).length≤700:=by
 unfold nulW
 rcases qev h with h1 | h1 | h1
 ·rw [if_pos h1];decide
 ·rw [if_neg (by omega),if_pos h1];decide
 ·rw [if_neg (by omega),if_neg (by omega)]
  obtain ⟨t,t1,t2,t3,t4,_⟩:=qfg (h3 h1)
  have:=t.prx_len t1
  rw [t4]
  simp;omega
theorem Fm.prf_len:∀ t:Fm Trm,t.wf rightE→t.prf.length≤700*t.size
 | .nul p,h=>by
   have:=nulW_len h.1 h.2.1
   simp only [Fm.prf,Fm.size];omega
 | .un p x,h=>by
   have:=Fm.prf_len x h.2.2
   have h1:=unaW_len p.1
   have h2:=qbb (decide (x.lvF<5)) x.prf
   simp only [Fm.prf,Fm.size,List.length_append];omega
 | .bi p x y,h=>by
   have:=Fm.prf_len x h.2.2.1
   have:=Fm.prf_len y h.2.2.2
   have h1:=binW_len p.1
   have h2:=qbb (decide (x.lvF<lfK (lvK p.1))) x.prf
   have h3:=qbb (decide (y.lvF<rtK (lvK p.1))) y.prf
   simp only [Fm.prf,Fm.size,List.length_append];omega
theorem qew (s:List UInt8) (n m:Int) (hs:s.length≤1000000):M118 s n m=some (brW (decide (n<m)) s):=by
 show T118 Ops.std s n m some=_
 unfold T118
 simp only [qak,qap,qaa,List.length_append,List.length_cons,List.length_nil]
 by_cases h:n<m
 ·rw [if_pos h,if_pos (by omega),if_pos (by omega),decide_eq_true h];rfl
 ·rw [if_neg h,decide_eq_false h];rfl
theorem preW_prog {k:Int} (h:unaK k):M117 k=some (unaW k):=by rcases h with rfl | rfl | rfl | rfl<;>rfl
theorem infix_prog {k:Int} (h:binK k):M119 k=some (binW k,((lvK k:Nat):Int)-1,decide (lvK k=1∨lvK k=4)):=by rcases h with rfl | rfl | rfl | rfl | rfl<;>rfl
abbrev Sfd:=List UInt8×Int
theorem told_nul {p:Prt} (h:opn p.1=0) (h3:p.1=3→rightE p.2=true):M84 p.1 p.2 []=some (nulW p,5):=by
 show T84 Ops.std M20 M117 M118 M119 p.1 p.2 [] some=_
 unfold T84 nulW
 simp only [qao,qap,qaa]
 rcases qev h with h1 | h1 | h1
 ·rw [if_pos h1,if_pos h1]
 ·rw [if_neg (by omega),if_pos h1,if_neg (by omega),if_pos h1]
 ·obtain ⟨t,t1,t2,t3,t4,t5⟩:=qfg (h3 h1)
  have:=t.prx_len t1
  rw [←t4] at this
  rw [if_neg (by omega),if_neg (by omega),if_pos h1,if_neg (by omega),if_neg (by omega),t5,ob_s,if_pos (by omega),if_pos (by simp;omega)]
theorem told_un {k:Int} (h:unaK k) (e:List Trm) (s:List UInt8) (n:Int) (hs:s.length≤100000):M84 k e [(s,n)]=some (unaW k++brW (decide (n<4)) s,4):=by
 show T84 Ops.std M20 M117 M118 M119 k e [(s,n)] some=_
 unfold T84
 have hk:¬ k=1∧¬ k=2∧¬ k=3:=by rcases h with rfl | rfl | rfl | rfl<;>decide
 have h1:=unaW_len k
 have h2:=qbb (decide (n<4)) s
 have hb:=qew s n 4 (by omega)
 simp only [qao,qap,qam,qaa,preW_prog h,ob_s]
 rw [if_neg hk.1,if_neg hk.2.1,if_neg hk.2.2,if_pos (by simp),if_pos (by simp)]
 show ob (M118 s n 4) _=_
 rw [hb,ob_s,if_pos (by omega)]
theorem told_bi {k:Int} (h:binK k) (e:List Trm) (a b:List UInt8) (la lb:Int) (ha:a.length≤100000) (hb:b.length≤100000):M84 k e [(a,la),(b,lb)]=some (brW (decide (la<(lfK (lvK k):Nat)-1)) a++binW k++brW (decide (lb<(rtK (lvK k):Nat)-1)) b,((lvK k:Nat):Int)-1):=by
 show T84 Ops.std M20 M117 M118 M119 k e [(a,la),(b,lb)] some=_
 unfold T84
 have hk:¬ k=1∧¬ k=2∧¬ k=3:=by rcases h with rfl | rfl | rfl | rfl | rfl<;>decide
 have h1:=binW_len k
 have hlv:=lvK_le (k:=k)
 have h2:=qbb (decide (la<(lfK (lvK k):Nat)-1)) a
 have h3:=qbb (decide (lb<(rtK (lvK k):Nat)-1)) b
 have hw:IntKind.wrap IntKind.i64 (((lvK k:Nat):Int)-1+1)=((lvK k:Nat):Int):=by rw [wrap64 (by omega) (by omega)];omega
 have b1:∀ m,M118 a la m=some (brW (decide (la<m)) a):=fun m=>qew a la m (by omega)
 have b2:∀ m,M118 b lb m=some (brW (decide (lb<m)) b):=fun m=>qew b lb m (by omega)
 simp only [qao,qap,qam,qaa,infix_prog h,ob_s,hw]
 rw [if_neg hk.1,if_neg hk.2.1,if_neg hk.2.2,if_neg (by simp)]
 by_cases hr:lvK k=1∨lvK k=4
 ·have e1:((lfK (lvK k):Nat):Int)-1=((lvK k:Nat):Int):=by unfold lfK;rw [if_pos hr];omega
  have e2:((rtK (lvK k):Nat):Int)-1=((lvK k:Nat):Int)-1:=by unfold rtK;rw [if_pos hr]
  rw [e1] at h2 ⊢
  rw [e2] at h3 ⊢
  rw [if_pos hr,if_pos (by simp),if_pos (by simp)]
  show ob (M118 a la _) _=_
  rw [b1,ob_s,if_pos (by omega)]
  show ob (M118 b lb _) _=_
  rw [b2,ob_s,if_pos (by simp only [List.length_append];omega)]
 ·have e1:((lfK (lvK k):Nat):Int)-1=((lvK k:Nat):Int)-1:=by unfold lfK;rw [if_neg hr]
  have e2:((rtK (lvK k):Nat):Int)-1=((lvK k:Nat):Int):=by unfold rtK;rw [if_neg hr];omega
  rw [e1] at h2 ⊢
  rw [e2] at h3 ⊢
  rw [if_neg hr,if_pos (by simp),if_pos (by simp)]
  show ob (M118 a la _) _=_
  rw [b1,ob_s,if_pos (by omega)]
  show ob (M118 b lb _) _=_
  rw [b2,ob_s,if_pos (by simp only [List.length_append];omega)]
theorem clone_said (xs:List Sfd) (h:xs.length<900000):M85 xs=some xs:=by
 unfold M85 cloneF fits
 rw [qaa,if_pos (by omega)]
noncomputable abbrev pfR (f:List Prt):=R42 M48 M82 M85 M84 f
section
variable {f:List Prt} (hl:f.length≤60)
include hl
theorem pf_step (i m:Nat) (st kids:List Sfd) (p:Prt) (w:List UInt8) (n:Int) (hi:i<f.length) (hx:f.getD i (Ty.dflt ty78)=p) (hop:opn p.1=((kids.length:Nat):Int)) (hk:kids.length≤2) (hs:st.length≤100) (ht:M84 p.1 p.2 kids=some (w,n)):pfR f (m+1) (.l0 (f.length:Nat) i (st++kids))=pfR f m (.l0 (f.length:Nat) ((i+1:Nat):Int) (st++[(w,n)])):=by
 have hU:pfR f (m+1) (.l0 (f.length:Nat) i (st++kids))=T42 Ops.std M48 M82 M85 M84 f (pfR f m) some (some (.l0 (f.length:Nat) i (st++kids))):=rfl
 rw [hU]
 unfold T42
 have hlen:(st++kids).length=st.length+kids.length:=by simp
 have hw:IntKind.wrap IntKind.i64 (((st++kids).length:Int)-((kids.length:Nat):Int))=((st.length:Nat):Int):=by rw [hlen,wrap64 (by omega) (by omega)];omega
 have htk:(st++kids).take st.length=st:=List.take_left
 have hdr:(st++kids).drop st.length=kids:=List.drop_left
 simp only [qak,qam,qao,qap,qaa,qaf,hx,mt,List.length_cons,List.length_nil,opn_prog,ob_s,hop,hw,htk,List.take_length,hdr,clone_said kids (by omega),ht,show IntKind.wrap IntKind.i64 ((i:Int)+1)=((i+1:Nat):Int) from qah (by omega)]
 rw [if_pos (by omega),if_pos (by omega),if_pos (by omega),if_pos (by omega),if_pos (by omega)]
theorem pf_tree:∀ (t:Fm Trm),t.wf rightE→t.size≤60→∀ (pre rest:List Prt) (st:List Sfd) (m:Nat),f=pre++(t.flat++rest)→st.length+t.size≤70→
  pfR f (m+t.size) (.l0 (f.length:Nat) (pre.length:Nat) st)=pfR f m (.l0 (f.length:Nat) ((pre.length+t.size:Nat):Int) (st++[(t.prf,((t.lvF:Nat):Int)-1)]))
 | .nul p,h,h60,pre,rest,st,m,he,hs=>by
   have hx:f.getD pre.length (Ty.dflt ty78)=p:=by rw [he];exact qat pre p rest _
   have:=pf_step hl pre.length m st [] p _ _ (by rw [he];simp [Fm.flat]) hx h.1 (by simp) (by omega) (told_nul h.1 h.2.1)
   rw [List.append_nil] at this
   exact this
 | .un p x,h,h60,pre,rest,st,m,he,hs=>by
   have hf:(Fm.un p x).size=x.size+1:=rfl
   have hxl:=x.flat_len
   have he1:f=pre++(x.flat++(p::rest)):=by rw [he];simp [Fm.flat]
   have ih:=pf_tree x h.2.2 (by omega) pre _ st (m+1) he1 (by omega)
   have hel:f.length=pre.length+(x.size+(rest.length+1)):=by rw [he1];simp [hxl]
   have hx:f.getD (pre.length+x.size) (Ty.dflt ty78)=p:=by
    rw [he1,←List.append_assoc,←hxl,←List.length_append];exact qat _ _ rest _
   have hlen:=x.prf_len h.2.2
   have hu:=opn_un h.1
   have ht:=told_un hu p.2 x.prf (((x.lvF:Nat):Int)-1) (by omega)
   have hst:=pf_step hl (pre.length+x.size) m st [(x.prf,((x.lvF:Nat):Int)-1)] p _ _ (by omega) hx (by rw [h.1];rfl) (by simp) (by omega) ht
   rw [hf,show m+(x.size+1)=m+1+x.size by omega,ih,hst]
   have hd:decide (((x.lvF:Nat):Int)-1<4)=decide (x.lvF<5):=by congr 1;exact propext ⟨fun h=>by omega,fun h=>by omega⟩
   rw [hd]
   rfl
 | .bi p x y,h,h60,pre,rest,st,m,he,hs=>by
   have hf:(Fm.bi p x y).size=x.size+y.size+1:=rfl
   have hxl:=x.flat_len
   have hyl:=y.flat_len
   have he1:f=pre++(x.flat++(y.flat++(p::rest))):=by rw [he];simp [Fm.flat]
   have hel:f.length=pre.length+(x.size+(y.size+(rest.length+1))):=by rw [he1];simp [hxl,hyl]
   have ih:=pf_tree x h.2.2.1 (by omega) pre _ st (m+1+y.size) he1 (by omega)
   have ih2:=pf_tree y h.2.2.2 (by omega) (pre++x.flat) (p::rest) (st++[(x.prf,((x.lvF:Nat):Int)-1)]) (m+1) (by rw [he1];simp) (by simp;omega)
   rw [List.length_append,hxl] at ih2
   have hx:f.getD (pre.length+x.size+y.size) (Ty.dflt ty78)=p:=by
    rw [he1,←List.append_assoc,←List.append_assoc,←hxl,←hyl,←List.length_append,←List.length_append];exact qat _ _ rest _
   have hlen:=x.prf_len h.2.2.1
   have hlen2:=y.prf_len h.2.2.2
   have hu:=opn_bi h.1
   have ht:=told_bi hu p.2 x.prf y.prf (((x.lvF:Nat):Int)-1) (((y.lvF:Nat):Int)-1) (by omega) (by omega)
   have hst:st++[(x.prf,((x.lvF:Nat):Int)-1)]++[(y.prf,((y.lvF:Nat):Int)-1)]=st++[(x.prf,((x.lvF:Nat):Int)-1),(y.prf,((y.lvF:Nat):Int)-1)]:=by simp
   have hstp:=pf_step hl (pre.length+x.size+y.size) m st [(x.prf,((x.lvF:Nat):Int)-1),(y.prf,((y.lvF:Nat):Int)-1)] p _ _ (by omega) hx (by rw [h.1];rfl) (by simp) (by omega) ht
   rw [hf,show m+(x.size+y.size+1)=m+1+y.size+x.size by omega,ih,ih2,hst,hstp]
   have hd:decide (((x.lvF:Nat):Int)-1<(lfK (lvK p.1):Nat)-1)=decide (x.lvF<lfK (lvK p.1)):=by congr 1;exact propext ⟨fun h=>by omega,fun h=>by omega⟩
   have hd2:decide (((y.lvF:Nat):Int)-1<(rtK (lvK p.1):Nat)-1)=decide (y.lvF<rtK (lvK p.1)):=by congr 1;exact propext ⟨fun h=>by omega,fun h=>by omega⟩
   rw [hd,hd2,show pre.length+x.size+y.size+1=pre.length+(x.size+y.size+1) by omega]
   rfl
end
theorem fright_prog {t:Fm Trm} (ht:t.wf rightE) (hs:∀ p∈t.flat,shortP p) (h60:t.size≤60):M48 t.flat=some true:=by
 have hl:=t.flat_len
 rw [right_prog rightE t.flat (fun p hp=>qep p.2 (by have:=(hs p hp).1;omega)) ⟨by omega,fun p hp=>by have:=(hs p hp).1;omega⟩,tree_rightF rightE ht h60]
theorem qex {t:Fm Trm} (ht:t.wf rightE) (hs:∀ p∈t.flat,shortP p) (h60:t.size≤60):M42 t.flat=some t.prf:=by
 show T42 Ops.std M48 M82 M85 M84 t.flat (pfR t.flat 1000000) some none=_
 unfold T42
 have hl:=t.flat_len
 rw [fright_prog ht hs h60,ob_s]
 simp only [Bool.not_true,cond_false]
 have:=pf_tree (f:=t.flat) (by omega) t ht h60 [] [] [] (1000000-t.size) (by simp) (by simp;omega)
 rw [show 1000000-t.size+t.size=1000000 by omega] at this
 refine Eq.trans this ?_
 obtain ⟨m,hm⟩:∃ m,1000000-t.size=m+1:=⟨1000000-t.size-1,by omega⟩
 rw [hm]
 have hU:∀ (i:Int) (st:List Sfd),pfR t.flat (m+1) (.l0 (t.flat.length:Nat) i st)=T42 Ops.std M48 M82 M85 M84 t.flat (pfR t.flat m) some (some (.l0 (t.flat.length:Nat) i st)):=fun _ _=>rfl
 rw [hU]
 unfold T42
 simp only [qak,qam,qaa]
 rw [if_neg (by simp;omega),if_pos (by simp)]
 rfl
theorem brF_lex {d:Df} {s:List UInt8} {b:Prop} [Decidable b] (h:∀ r,noWord r→LexTo s r d.toks) (r:List UInt8) (hr:noWord r):LexTo (brW (decide b) s) r (if b then Df.bra d else d).toks:=by
 by_cases hb:b
 ·rw [decide_eq_true hb,if_pos hb]
  have e:brW true s=[40]++(s++[41]):=by simp [brW]
  rw [e]
  exact (qca (c:=40) _ (by simp)).app ((h _ (noWord.cons rfl)).app (qca (c:=41) r (by simp)))
 ·rw [decide_eq_false hb,if_neg hb]
  exact h r hr
theorem prf_drv:∀ t:Fm Trm,t.wf rightE→∃ D:Df,D.ok∧D.tree=t∧D.lv=t.lvF∧hdOK t.prf∧∀ r,noWord r→LexTo t.prf r D.toks
 | .nul p,h=>by
   obtain ⟨h1,h2,h3⟩:=h
   rcases qev h1 with hp | hp | hp
   ·refine ⟨.con true,trivial,?_,rfl,?_,fun r hr=>?_⟩
    ·show Fm.nul (1,[])=Fm.nul p
     rw [←hp,←h3 (by omega)]
    ·simp only [Fm.prf,nulW];rw [if_pos hp];exact ⟨_,_,rfl,by decide,by decide⟩
    ·simp only [Fm.prf,nulW];rw [if_pos hp];exact lx_con true hr
   ·refine ⟨.con false,trivial,?_,rfl,?_,fun r hr=>?_⟩
    ·show Fm.nul (2,[])=Fm.nul p
     rw [←hp,←h3 (by omega)]
    ·simp only [Fm.prf,nulW];rw [if_neg (by omega),if_pos hp];exact ⟨_,_,rfl,by decide,by decide⟩
    ·simp only [Fm.prf,nulW];rw [if_neg (by omega),if_pos hp];exact lx_con false hr
   ·obtain ⟨t,t1,t2,t3,t4,_⟩:=qfg (h2 hp)
    have hw:nulW p=[91]++(t.prx++[93]):=by
     unfold nulW
     rw [if_neg (by omega),if_neg (by omega),t4,List.append_assoc]
    refine ⟨.atm t.dx,⟨dx_ok t t1,by rw [qet];exact t3⟩,?_,rfl,?_,fun r hr=>?_⟩
    ·show Fm.nul (3,t.dx.tree.flat)=Fm.nul p
     rw [qet,←t2,←hp]
    ·simp only [Fm.prf,hw];exact ⟨_,_,rfl,by decide,by decide⟩
    ·simp only [Fm.prf,hw]
     exact (qca (c:=91) _ (by simp)).app ((prx_lex t t1 _ (noWord.cons rfl)).app (qca (c:=93) r (by simp)))
 | .un p x,h=>by
   obtain ⟨D,d1,d2,d3,d4,d5⟩:=prf_drv x h.2.2
   have hu:=opn_un h.1
   have hb:hdOK (brW (decide (x.lvF<5)) x.prf):=brW_hd d4
   have key:(if x.lvF<5 then Df.bra D else D).ok∧(if x.lvF<5 then Df.bra D else D).tree=x∧5≤(if x.lvF<5 then Df.bra D else D).lv:=by
    split
    ·exact ⟨d1,d2,by show 5≤6;omega⟩
    ·exact ⟨d1,d2,by omega⟩
   refine ⟨.un p.1 (if x.lvF<5 then .bra D else D),⟨hu,key.2.2,key.1⟩,?_,rfl,?_,fun r hr=>?_⟩
   ·show Fm.un (p.1,[]) _=Fm.un p x
    rw [key.2.1,←h.2.1]
   ·simp only [Fm.prf]
    rcases hu with e | e | e | e<;>rw [e]<;>exact ⟨_,_,rfl,by decide,by decide⟩
   ·simp only [Fm.prf]
    obtain ⟨c,q,e1,e2,e3⟩:=hb.app r
    have:=(lx_una hu (s:=brW (decide (x.lvF<5)) x.prf) (r:=r) (by
     obtain ⟨c,q,e1,e2,e3⟩:=hb
     exact ⟨c,q,e1,e2⟩)).app (brF_lex d5 r hr)
    exact this
 | .bi p x y,h=>by
   obtain ⟨D,d1,d2,d3,d4,d5⟩:=prf_drv x h.2.2.1
   obtain ⟨E,e1,e2,e3,e4,e5⟩:=prf_drv y h.2.2.2
   have hu:=opn_bi h.1
   have hlv:=lvK_le (k:=p.1)
   have hlf:lfK (lvK p.1)≤6:=by unfold lfK;split<;>omega
   have hrt:rtK (lvK p.1)≤6:=by unfold rtK;split<;>omega
   have kx:(if x.lvF<lfK (lvK p.1) then Df.bra D else D).ok∧(if x.lvF<lfK (lvK p.1) then Df.bra D else D).tree=x∧lfK (lvK p.1)≤(if x.lvF<lfK (lvK p.1) then Df.bra D else D).lv:=by
    split
    ·exact ⟨d1,d2,hlf⟩
    ·exact ⟨d1,d2,by omega⟩
   have ky:(if y.lvF<rtK (lvK p.1) then Df.bra E else E).ok∧(if y.lvF<rtK (lvK p.1) then Df.bra E else E).tree=y∧rtK (lvK p.1)≤(if y.lvF<rtK (lvK p.1) then Df.bra E else E).lv:=by
    split
    ·exact ⟨e1,e2,hrt⟩
    ·exact ⟨e1,e2,by omega⟩
   refine ⟨.bi p.1 (if x.lvF<lfK (lvK p.1) then .bra D else D) (if y.lvF<rtK (lvK p.1) then .bra E else E),⟨hu,kx.2.2,ky.2.2,kx.1,ky.1⟩,?_,rfl,?_,fun r hr=>?_⟩
   ·show Fm.bi (p.1,[]) _ _=Fm.bi p x y
    rw [kx.2.1,ky.2.1,←h.2.1]
   ·simp only [Fm.prf]
    exact ((brW_hd d4).app _).app _
   ·simp only [Fm.prf,List.append_assoc]
    refine (brF_lex d5 _ ?_).app ((lx_bin hu _).app (brF_lex e5 r hr))
    rw [List.append_assoc]
    exact noWord.bin hu _
theorem prf_parse {t:Fm Trm} (h:t.wf rightE) (hl:t.size≤24):FParseIs t.prf (0,0,t.flat):=by
 obtain ⟨D,d1,d2,d3,d4,d5⟩:=prf_drv t h
 have hlen:=t.prf_len h
 have:=Df.parse d1 (by rw [d2];exact hl) (d5 [] noWord.nil) (by omega)
 rw [d2] at this
 exact this
def okB (l:List Tok):Prop:=∀ t∈l,t.2.1=[40]→opnB t=true
theorem qey:∀ (f:Nat) (s:List UInt8) (a:Nat) (out:List Tok),okB out→∀ (e x:Int) (l:List Tok),lexGo f s a out=(e,x,l)→e=0→okB l
 | 0,s,a,out,ho,e,x,l,h,he=>by
   simp only [lexGo,Prod.mk.injEq] at h
   omega
 | f+1,[],a,out,ho,e,x,l,h,he=>by
   simp only [lexGo,Prod.mk.injEq] at h
   obtain ⟨_,_,rfl⟩:=h
   intro t ht
   rcases List.mem_append.1 ht with h2 | h2
   ·exact ho t h2
   ·simp only [List.mem_singleton] at h2
    subst h2
    intro h3
    cases h3
 | f+1,b::r,a,out,ho,e,x,l,h,he=>by
   simp only [lexGo] at h
   split at h
   ·exact qey f r (a+1) out ho e x l h he
   ·split at h
    ·simp only [Prod.mk.injEq] at h
     omega
    ·rename_i k w n ht
     refine qey f ((b::r).drop w.length) (a+w.length) (out++[(k,w,n,(a:Int))]) (fun t ht'=>?_) e x l h he
     rcases List.mem_append.1 ht' with h2 | h2
     ·exact ho t h2
     ·simp only [List.mem_singleton] at h2
      subst h2
      intro h3
      have h3:w=[40]:=h3
      have:=tok_40 ht (a:Int)
      rw [h3] at this
      rw [h3]
      cases hb:opnB (k,[40],n,(a:Int)) with
      | true=>rfl
      | false=>rw [hb] at this;cases this
theorem lexS_okB {s:List UInt8} {x:Int} {l:List Tok} (h:lexS s=(0,x,l)):okB l:=by
 unfold lexS at h
 split at h
 ·cases h
 ·exact qey _ s 0 [] (fun t ht=>by cases ht) 0 x l h rfl
theorem okB.is {l:List Tok} (h:okB l) {a:Nat} (ha:a<l.length) (ht:txF l a=[40]):isS l a [40]=true:=by
 have hm:tkD l a∈l:=by
  unfold tkD
  rw [List.getD_eq_getElem?_getD,List.getElem?_eq_getElem ha]
  exact List.getElem_mem _
 have h2:(tkD l a).2.1=[40]:=by
  unfold txF at ht
  split at ht
  ·exact ht
  ·cases ht
 exact h _ hm h2
noncomputable def Fm.fneed (t:Fm Trm) (n:Nat):Nat:=(if t.lvF<n then 1 else 0)+t.prf.countP b40
theorem qds (t:Fm Trm) {n m:Nat} (h:n≤m):t.fneed n≤t.fneed m:=by
 unfold Fm.fneed
 (repeat' split)<;>omega
theorem una_40 {k:Int} (h:unaK k):(unaW k).countP b40=0:=by rcases h with rfl | rfl | rfl | rfl<;>rfl
theorem bin_40 {k:Int} (h:binK k):(binW k).countP b40=0:=by rcases h with rfl | rfl | rfl | rfl | rfl<;>rfl
theorem brF_40 (t:Fm Trm) (n:Nat):(brW (decide (t.lvF<n)) t.prf).countP b40=t.fneed n:=by
 rw [brW_40]
 unfold Fm.fneed
 by_cases h:t.lvF<n
 ·rw [if_pos h,decide_eq_true h];rfl
 ·rw [if_neg h,decide_eq_false h];rfl
theorem fneed_un {p:Prt} {x:Fm Trm} (h:unaK p.1) {n:Nat} (hn:n≤5):(Fm.un p x).fneed n=x.fneed 5:=by
 have:(Fm.un p x).fneed n=(if 5<n then 1 else 0)+(Fm.un p x).prf.countP b40:=rfl
 rw [this,if_neg (by omega)]
 simp only [Fm.prf,List.countP_append,una_40 h,brF_40]
 omega
theorem fneed_bi {p:Prt} {x y:Fm Trm} (h:binK p.1) {n:Nat} (hn:n≤lvK p.1):(Fm.bi p x y).fneed n=x.fneed (lfK (lvK p.1))+y.fneed (rtK (lvK p.1)):=by
 have:(Fm.bi p x y).fneed n=(if lvK p.1<n then 1 else 0)+(Fm.bi p x y).prf.countP b40:=rfl
 rw [this,if_neg (by omega)]
 simp only [Fm.prf,List.countP_append,bin_40 h,brF_40]
 omega
theorem qez {p:Prt} {n:Nat} (hn:n≤6):(Fm.nul p).fneed n=(nulW p).countP b40:=by
 have:(Fm.nul p).fneed n=(if 6<n then 1 else 0)+(nulW p).countP b40:=rfl
 rw [this,if_neg (by omega)]
 omega
theorem sgF_lv {n:Nat} {w:List UInt8} (hn:n≤4) (h:sgF n w≠0):lvK (sgF n w)=n∧binK (sgF n w):=by
 unfold sgF at h ⊢
 by_cases h1:n=1
 ·rw [if_pos h1] at h ⊢
  subst h1
  unfold impW at h ⊢
  split
  ·exact ⟨rfl,.inr (.inr (.inl rfl))⟩
  ·rename_i hw;rw [if_neg hw] at h;exact absurd rfl h
 rw [if_neg h1] at h ⊢
 by_cases h2:n=2
 ·rw [if_pos h2] at h ⊢
  subst h2
  split
  ·exact ⟨rfl,.inr (.inl rfl)⟩
  ·rename_i hw;rw [if_neg hw] at h;exact absurd rfl h
 rw [if_neg h2] at h ⊢
 by_cases h3:n=3
 ·rw [if_pos h3] at h ⊢
  subst h3
  split
  ·exact ⟨rfl,.inl rfl⟩
  ·rename_i hw;rw [if_neg hw] at h;exact absurd rfl h
 rw [if_neg h3] at h ⊢
 by_cases h4:n=4
 ·rw [if_pos h4] at h ⊢
  subst h4
  unfold untW at h ⊢
  split
  ·exact ⟨rfl,.inr (.inr (.inr (.inl rfl)))⟩
  ·rename_i hw
   rw [if_neg hw] at h
   split
   ·exact ⟨rfl,.inr (.inr (.inr (.inr rfl)))⟩
   ·rename_i hw;rw [if_neg hw] at h;exact absurd rfl h
 rw [if_neg h4,if_neg (by omega)] at h
 exact absurd rfl h
def fndS (l:List Tok):FSt→FRs→Prop
 | .lv n a,.ok b e=>∃ t:Fm Trm,t.wf rightE∧e=t.flat∧cntB l a+t.fneed n≤cntB l b
 | .lp n a e0,.ok b e=>∀ (t:Fm Trm) (c:Nat),t.wf rightE→e0=t.flat→c+t.fneed n≤cntB l a→∃ t':Fm Trm,t'.wf rightE∧e=t'.flat∧c+t'.fneed n≤cntB l b
 | _,_=>True
theorem qc7 {l:List Tok} (hl:toksOK l) (hk:okB l):∀ (d:Nat) (s:FSt) (r:FRs),(∀ n a,s=.lv n a→1≤n∧n≤6)→(∀ n b e,s=.lp n b e→n=2∨n=3)→s.at<l.length→goF l d s=some r→fndS l s r
 | 0,s,r,_,_,_,h=>by cases h
 | d+1,.lv n a,r,h1,_,ha,h=>by
   have ha:a<l.length:=ha
   have hn:=h1 n a rfl
   have lvH:∀ {n a:Nat} {r:FRs},1≤n→n≤6→a<l.length→goF l d (.lv n a)=some r→fndS l (.lv n a) r:=fun h1 h2 h3 h4=>qc7 hl hk d _ _ (fun _ _ e=>by cases e;exact ⟨h1,h2⟩) (fun _ _ _ e=>by cases e) h3 h4
   have lvB:∀ {n a:Nat} {r:FRs},1≤n→n≤6→a<l.length→goF l d (.lv n a)=some r→BdF l (.lv n a) r:=fun h1 h2 h3 h4=>qd0 hl d _ _ (fun _ _ e=>by cases e;exact ⟨h1,h2⟩) (fun _ _ _ e=>by cases e) h3 h4
   rw [goF] at h
   split at h
   ·rename_i h14
    rcases qa4 h with ⟨b,e,g1,g2⟩ | ⟨k,c,g1,rfl⟩
    ·obtain ⟨i1,i2,_,_⟩:=lvB (by omega) (by omega) ha g1
     obtain ⟨x,x1,x2,x3⟩:=lvH (by omega) (by omega) ha g1
     split at g2
     ·cases g2
      have:=qds x (show n≤n+1 by omega)
      exact ⟨x,x1,x2,by omega⟩
     ·rename_i hs
      have hb1:=qau hl i2 (qbj hs).2.2
      rcases qa4 g2 with ⟨c,e2,j1,j2⟩ | ⟨k,c,j1,rfl⟩
      ·obtain ⟨y,y1,y2,y3⟩:=lvH (by omega) (by omega) hb1 j1
       cases j2
       obtain ⟨o1,o2⟩:=sgF_lv (by omega) hs
       have hm:=qa0 l (show b≤b+1 by omega)
       refine ⟨.bi (sgF n (txF l b),[]) x y,⟨(qbj hs).1 (by omega),rfl,x1,y1⟩,by rw [x2,y2];rfl,?_⟩
       have e1:lfK n=n+1:=if_pos h14
       have e2:rtK n=n:=if_pos h14
       rw [fneed_bi (p:=(sgF n (txF l b),[])) o2 (by show n≤lvK (sgF n (txF l b));rw [o1];exact Nat.le_refl n)]
       show _+(x.fneed (lfK (lvK (sgF n (txF l b))))+y.fneed (rtK (lvK (sgF n (txF l b)))))≤_
       rw [o1,e1,e2]
       omega
      ·exact trivial
    ·exact trivial
   ·split at h
    ·rename_i h23
     rcases qa4 h with ⟨b,e,g1,g2⟩ | ⟨k,c,g1,rfl⟩
     ·obtain ⟨i1,i2,_,_⟩:=lvB (by omega) (by omega) ha g1
      obtain ⟨x,x1,x2,x3⟩:=lvH (by omega) (by omega) ha g1
      have:=qc7 hl hk d (.lp n b e) r (fun _ _ e=>by cases e) (fun _ _ _ e=>by cases e;exact h23) i2 g2
      cases r with
      | ok c e'=>
        have hm:=qds x (show n≤n+1 by omega)
        exact this x _ x1 x2 (by omega)
      | bad k c=>exact trivial
     ·exact trivial
    ·split at h
     ·rename_i h5
      subst h5
      have ha:a<l.length:=ha
      split at h
      ·have:=lvH (n:=6) (by omega) (by omega) ha h
       cases r with
       | bad k c=>exact trivial
       | ok b e=>
         obtain ⟨x,x1,x2,x3⟩:=this
         have hm:=qds x (show 5≤6 by omega)
         exact ⟨x,x1,x2,by omega⟩
      ·rename_i hs
       have hb1:=qau hl ha (qbj hs).2.2
       rcases qa4 h with ⟨b,e,g1,g2⟩ | ⟨k,c,g1,rfl⟩
       ·obtain ⟨x,x1,x2,x3⟩:=lvH (by omega) (by omega) hb1 g1
        cases g2
        have ho:=(qbj hs).2.1 rfl
        have hm:=qa0 l (show a≤a+1 by omega)
        refine ⟨.un (sgF 5 (txF l a),[]) x,⟨ho,rfl,x1⟩,by rw [x2];rfl,?_⟩
        rw [fneed_un (p:=(sgF 5 (txF l a),[])) (opn_un ho) (Nat.le_refl 5)]
        omega
       ·exact trivial
     ·obtain rfl:n=6:=by omega
      have ha:a<l.length:=ha
      split at h
      ·cases h
       have hm:=qa0 l (show a≤a+1 by omega)
       refine ⟨.nul (1,[]),⟨rfl,fun h=>(by cases h),fun _=>rfl⟩,rfl,?_⟩
       rw [qez (Nat.le_refl 6),show (nulW (1,[])).countP b40=0 from rfl]
       exact hm
      ·split at h
       ·cases h
        have hm:=qa0 l (show a≤a+1 by omega)
        refine ⟨.nul (2,[]),⟨rfl,fun h=>(by cases h),fun _=>rfl⟩,rfl,?_⟩
        rw [qez (Nat.le_refl 6),show (nulW (2,[])).countP b40=0 from rfl]
        exact hm
       ·split at h
        ·rename_i ht
         have hb1:=qau hl ha (by rw [ht];decide)
         cases hg:go l d (.lv 1 (a+1)) with
         | none=>rw [hg] at h;cases h
         | some q=>
           rw [hg] at h
           cases h
           have hnd:=qb4 hl d (.lv 1 (a+1)) q (Nat.le_refl 1) hb1 hg
           cases q with
           | bad k=>exact trivial
           | ok b e=>
             obtain ⟨u,u1,u2,u3⟩:=hnd
             show fndS l (.lv 6 a) (if 30<e.length then .bad a 13 else if txF l b=[93] then .ok (b+1) [(3,e)] else .bad b 2)
             split
             ·exact trivial
             ·split
              ·rename_i h30 hb
               subst u2
               have hr:=qes u1 (by omega)
               obtain ⟨v,v1,v2,v3,v4,_⟩:=qfg hr
               have:=Et.flat_inj u1 v1 v2
               subst this
               have hm:=qa0 l (show a≤a+1 by omega)
               have hm2:=qa0 l (show b≤b+1 by omega)
               refine ⟨.nul (3,u.flat),⟨rfl,fun _=>hr,fun h=>absurd rfl h⟩,rfl,?_⟩
               rw [qez (Nat.le_refl 6)]
               have e1:nulW (3,u.flat)=[91]++exW u.flat++[93]:=by
                unfold nulW
                rw [if_neg (by show ¬ (3:Int)=1;decide),if_neg (by show ¬ (3:Int)=2;decide)]
               rw [e1,v4,List.countP_append,List.countP_append,(prx_40 u u1).1,show ([91]:List UInt8).countP b40=0 from rfl,show ([93]:List UInt8).countP b40=0 from rfl]
               omega
              ·exact trivial
        ·split at h
         ·rename_i ht
          have hb1:=qau hl ha (by rw [ht];decide)
          rcases qa4 h with ⟨b,e,g1,g2⟩ | ⟨k,c,g1,rfl⟩
          ·obtain ⟨x,x1,x2,x3⟩:=lvH (by omega) (by omega) hb1 g1
           split at g2
           ·cases g2
            have hc:=cntB_succ l a ha
            rw [if_pos (hk.is ha ht)] at hc
            have hm2:=qa0 l (show b≤b+1 by omega)
            refine ⟨x,x1,x2,?_⟩
            have h6:x.fneed 6≤x.fneed 1+1:=by
             unfold Fm.fneed
             (repeat' split)<;>omega
            omega
           ·cases g2;exact trivial
          ·exact trivial
         ·cases h;exact trivial
 | d+1,.lp n b e,r,_,h2,hb,h=>by
   have hb:b<l.length:=hb
   have hn:=h2 n b e rfl
   rw [goF] at h
   split at h
   ·cases h
    exact fun t c t1 t2 t3=>⟨t,t1,t2,t3⟩
   ·rename_i hs
    have hb1:=qau hl hb (qbj hs).2.2
    rcases qa4 h with ⟨c,e2,g1,g2⟩ | ⟨k,c,g1,rfl⟩
    ·obtain ⟨i1,i2,i3,i4⟩:=qd0 hl d (.lv (n+1) (b+1)) _ (fun _ _ e=>by cases e;omega) (fun _ _ _ e=>by cases e) hb1 g1
     obtain ⟨y,y1,y2,y3⟩:=qc7 hl hk d (.lv (n+1) (b+1)) _ (fun _ _ e=>by cases e;omega) (fun _ _ _ e=>by cases e) hb1 g1
     have:=qc7 hl hk d (.lp n c _) r (fun _ _ e=>by cases e) (fun _ _ _ e=>by cases e;exact hn) i2 g2
     cases r with
     | bad k c=>exact trivial
     | ok c' e'=>
       intro x q x1 x2 x3
       obtain ⟨o1,o2⟩:=sgF_lv (by omega) hs
       have hm:=qa0 l (show b≤b+1 by omega)
       have e1:lfK n=n:=if_neg (by omega)
       have e2:rtK n=n+1:=if_neg (by omega)
       refine this (.bi (sgF n (txF l b),[]) x y) q ⟨(qbj hs).1 (by omega),rfl,x1,y1⟩ (by rw [x2,y2];rfl) ?_
       rw [fneed_bi (p:=(sgF n (txF l b),[])) o2 (by show n≤lvK (sgF n (txF l b));rw [o1];exact Nat.le_refl n)]
       show _+(x.fneed (lfK (lvK (sgF n (txF l b))))+y.fneed (rtK (lvK (sgF n (txF l b)))))≤_
       rw [o1,e1,e2]
       omega
    ·exact trivial
theorem fparse_need {s:List UInt8} {y:Int×Int×List Prt} (h:FParseIs s y) (h0:y.1=0):∃ t:Fm Trm,t.wf rightE∧y.2.2=t.flat∧t.prf.countP b40≤s.countP b40:=by
 rcases h with ⟨e,x,l,h1,h2,rfl⟩ | ⟨x,l,r,h1,h2,rfl⟩
 ·exact absurd h0 h2
 ·obtain ⟨hl,hlen,hs⟩:=lexS_ok h1
  obtain ⟨d,hd⟩:=h2.run
  have hn:=qc7 hl (lexS_okB h1) d (.lv 1 0) r (fun _ _ e=>by cases e;omega) (fun _ _ _ e=>by cases e) (qd8 hl) hd
  have hbd:=h2.bd hl (by omega) (by omega) (qd8 hl)
  cases r with
  | bad k c=>
    have h0:c=0:=h0
    rcases hbd.2.2 with h | h<;>omega
  | ok b e=>
    obtain ⟨t,t1,t2,t3⟩:=hn
    have hc:=cntB_le l b
    rw [lexS_40 h1] at hc
    refine ⟨t,t1,?_,?_⟩
    ·unfold parseF at h0 ⊢
     dsimp only at h0 ⊢
     split at h0
     ·rename_i h5
      rw [if_pos h5]
      split at h0
      ·exact absurd h0 (by show ¬ ((13:Int)=0);decide)
      ·rename_i h24
       rw [if_neg h24]
       exact t2
     ·exact absurd h0 (by show ¬ ((2:Int)=0);decide)
    ·have:t.fneed 1=(if t.lvF<1 then 1 else 0)+t.prf.countP b40:=rfl
     omega
def Tells (o:Option Bool) (p:Prop):Prop:=∃ b,o=some b∧(b=true↔p)
theorem qdt {α:Type} (f g:List α) (d:α) (hl:f.length=g.length) (Run:Nat→Nat→Option Bool)
  (hstep:∀ n i,i<f.length→∃ c:Bool,(c=true↔f.getD i d=g.getD i d)∧Run (n+1) i=cond c (Run n (i+1)) (some false))
  (hend:∀ n,Run (n+1) f.length=some true):∀ (t i n:Nat),i+t=f.length→t<n→(∀ j,j<i→f.getD j d=g.getD j d)→Tells (Run n i) (f=g)
 | t,i,0,hi,hn,hj=>by omega
 | 0,i,n+1,hi,hn,hj=>by
   have:i=f.length:=by omega
   subst this
   refine ⟨true,hend n,⟨fun _=>?_,fun _=>rfl⟩⟩
   apply List.ext_getElem hl
   intro k h1 h2
   have:=hj k h1
   rw [List.getD_eq_getElem?_getD,List.getD_eq_getElem?_getD,List.getElem?_eq_getElem h1,List.getElem?_eq_getElem h2] at this
   simpa using this
 | t+1,i,n+1,hi,hn,hj=>by
   obtain ⟨c,hc,hr⟩:=hstep n i (by omega)
   rw [hr]
   cases hcc:c with
   | true=>
     simp only [cond_true]
     refine qdt f g d hl Run hstep hend t (i+1) n (by omega) (by omega) fun j hj'=>?_
     by_cases h:j=i
     ·subst h;exact hc.1 hcc
     ·exact hj j (by omega)
   | false=>
     refine ⟨false,rfl,?_⟩
     constructor
     ·intro h;cases h
     ·intro h
      exfalso
      have:c=true:=hc.2 (by rw [h])
      rw [hcc] at this;cases this
theorem trm_eq (s t:Trm):(decide (s.1=t.1) && (decide (s.2.1=t.2.1) && (s.2.2.1 == t.2.2.1 && (s.2.2.2 == t.2.2.2 && true))))=true↔s=t:=by
 obtain ⟨a,b,c,d⟩:=s
 obtain ⟨a',b',c',d'⟩:=t
 simp only [Bool.and_eq_true,decide_eq_true_eq,beq_iff_eq,and_true,Prod.mk.injEq]
theorem cond_not {α:Type} (c:Bool) (x y:α):cond (!c) x y=cond c y x:=by cases c<;>rfl
section
variable {e e':List Trm}
theorem same_len {α:Type} {f g:List α} (h:¬ f.length=g.length):¬ f=g:=fun e=>h (by rw [e])
theorem sameE_prog (hl:e.length<900000):Tells (M65 e e') (e=e'):=by
 show Tells (T65 Ops.std e e' (R65 e e' 1000000) some none) _
 unfold T65
 simp only [qao,qa7,qaa]
 by_cases h:e.length=e'.length
 ·rw [if_neg (by omega)]
  refine qdt e e' (Ty.dflt ty56) h (fun n i=>R65 e e' n (.l0 (e.length:Nat) (i:Nat))) (fun n i hi=>?_) (fun n=>?_) e.length 0 1000000 (by omega) (by omega) (fun j hj=>by omega)
  ·refine ⟨_,trm_eq _ _,?_⟩
   show T65 Ops.std e e' _ some _=_
   unfold T65
   simp only [qak,qam,qao,qaa,qaf,cond_not]
   rw [if_pos (by omega),if_pos (by omega),if_pos (by omega),show IntKind.wrap IntKind.i64 ((i:Int)+1)=((i+1:Nat):Int) from qah (by omega)]
  ·show T65 Ops.std e e' _ some _=_
   unfold T65
   simp only [qak,qaa]
   rw [if_neg (by omega)]
 ·rw [if_pos (by omega)]
  exact ⟨false,rfl,by simp [same_len h]⟩
theorem sameEe_prog (hl:e.length<900000):Tells (M27 e e') (e=e'):=by
 obtain ⟨b,h1,h2⟩:=sameE_prog (e':=e') hl
 refine ⟨b,?_,h2⟩
 show T27 Ops.std M65 e e' some=_
 unfold T27
 rw [h1,ob_s]
end
theorem prt_eq (s t:Prt):s=t↔s.1=t.1∧s.2=t.2:=by
 constructor
 ·intro h;rw [h];exact ⟨rfl,rfl⟩
 ·intro h;cases s;cases t;simp at h;simp [h]
section
variable {f g:List Prt}
theorem sameF1_prog (p q:Prt) (h:p.2.length<900000):Tells (M87 p.1 p.2 q.1 q.2) (p=q):=by
 obtain ⟨b,h1,h2⟩:=sameEe_prog (e:=p.2) (e':=q.2) h
 show Tells (T87 Ops.std M27 p.1 p.2 q.1 q.2 some) _
 unfold T87
 simp only [qao,qaa]
 by_cases hk:p.1=q.1
 ·rw [if_pos hk,h1,ob_s]
  exact ⟨b,rfl,by rw [prt_eq,h2];simp [hk]⟩
 ·rw [if_neg hk]
  exact ⟨false,rfl,by rw [prt_eq];simp [hk]⟩
theorem sameF_eqf (hf:smallF f):Tells (M86 f g) (f=g):=by
 have hl:=hf.1
 show Tells (T86 Ops.std M87 f g (R86 M87 f g 1000000) some none) _
 unfold T86
 simp only [qao,qa7,qaa]
 by_cases h:f.length=g.length
 ·rw [if_neg (by omega)]
  refine qdt f g (Ty.dflt ty78) h (fun n i=>R86 M87 f g n (.l0 (f.length:Nat) (i:Nat))) (fun n i hi=>?_) (fun n=>?_) f.length 0 1000000 (by omega) (by omega) (fun j hj=>by omega)
  ·obtain ⟨b,h1,h2⟩:=sameF1_prog (f.getD i (Ty.dflt ty78)) (g.getD i (Ty.dflt ty78)) (hf.at hi)
   refine ⟨b,h2,?_⟩
   show T86 Ops.std _ f g _ some _=_
   unfold T86
   simp only [qak,qam,qao,qaa,qaf,cond_not]
   rw [if_pos (by omega),if_pos (by omega),if_pos (by omega),h1,ob_s,show IntKind.wrap IntKind.i64 ((i:Int)+1)=((i+1:Nat):Int) from qah (by omega)]
  ·show T86 Ops.std _ f g _ some _=_
   unfold T86
   simp only [qak,qaa]
   rw [if_neg (by omega)]
 ·rw [if_pos (by omega)]
  exact ⟨false,rfl,by simp [same_len h]⟩
theorem qfh (hf:smallF f):Tells (M43 f g) (f=g):=by
 obtain ⟨b,h1,h2⟩:=sameF_eqf (g:=g) hf
 refine ⟨b,?_,h2⟩
 show T43 Ops.std M86 M87 f g some=_
 unfold T43
 rw [h1,ob_s]
end
theorem tells_t {o:Option Bool} {p:Prop} (h:Tells o p) (hp:p):o=some true:=by
 obtain ⟨b,h1,h2⟩:=h
 rw [h1,h2.2 hp]
theorem tells_f {o:Option Bool} {p:Prop} (h:Tells o p) (hp:¬ p):o=some false:=by
 obtain ⟨b,h1,h2⟩:=h
 cases hb:b
 ·rw [h1,hb]
 ·exact absurd (h2.1 hb) hp
theorem pickN (x:Int) (n:Nat) (h0:0<n) (h1:n<1000000):∃ k:Nat,k<n∧M24 x (n:Nat)=some (k:Int):=by
 show ∃ k:Nat,k<n∧T24 Ops.std x (n:Nat) some=_
 unfold T24
 simp only [qao,qak,qaa]
 rw [if_neg (by omega)]
 have h2:=Int.tmod_lt_of_pos x (show (0:Int)<(n:Nat) by omega)
 have h3:=Int.lt_tmod_of_pos x (show (0:Int)<(n:Nat) by omega)
 generalize Int.tmod x (n:Nat)=q at h2 h3 ⊢
 by_cases hq:q<0
 ·refine ⟨(q+n).toNat,by omega,?_⟩
  rw [if_pos hq,wrap64 (by omega) (by omega)]
  congr 1;omega
 ·refine ⟨q.toNat,by omega,?_⟩
  rw [if_neg hq]
  congr 1;omega
theorem qdu (l:List Int) (pl:Nat) (a:Nat) (ha:a≤1000) (n:Nat) (h0:0<n) (h1:n<1000):∃ (k a':Nat),k<n∧a≤a'∧a'≤a+1∧M90 (n:Nat) l (a:Nat)=some ((k:Int),l,(a':Int)):=by
 show ∃ (k a':Nat),k<n∧a≤a'∧a'≤a+1∧T90 Ops.std M24 (n:Nat) l (a:Nat) some=_
 unfold T90
 simp only [qao,qam,qaa]
 by_cases hl:(l.length:Int)=0
 ·rw [if_pos hl]
  exact ⟨0,a,h0,Nat.le_refl _,by omega,rfl⟩
 ·have hw:IntKind.wrap IntKind.i64 ((a:Int)+1)=((a+1:Nat):Int):=qah (by omega)
  rw [if_neg hl,if_neg hl,hw]
  have ht:Int.tmod ((a+1:Nat):Int) (l.length:Nat)=(((a+1) % l.length:Nat):Int):=by rw [←Int.ofNat_tmod]
  have hd:Int.tdiv ((a+1:Nat):Int) (l.length:Nat)=(((a+1) / l.length:Nat):Int):=by rw [←Int.ofNat_tdiv]
  rw [ht,hd]
  have hlp:0<l.length:=by omega
  have hm:=Nat.mod_lt (a+1) hlp
  have hq:(a+1) / l.length≤a+1:=Nat.div_le_self _ _
  generalize (a+1) / l.length=q at hq ⊢
  generalize (a+1) % l.length=m at hm ⊢
  rw [if_pos (by omega),if_neg hl,wrap64 (n:=(q:Int)) (by omega) (by omega),wrap64 (n:=1+(q:Int)) (by omega) (by omega),if_neg (by omega)]
  obtain ⟨k,hk,hp⟩:=pickN (IntKind.wrap IntKind.i64 (Int.tdiv (l.getD (Int.toNat (m:Int)) (Ty.dflt ty3)) (1+(q:Int)))) n h0 (by omega)
  rw [hp,ob_s]
  exact ⟨k,a+1,hk,by omega,by omega,rfl⟩
def fB:Nat→Nat
 | 0=>20
 | h+1=>2*fB h+20
def fA:Nat→Nat
 | 0=>3
 | h+1=>2*fA h+3
theorem fB_le:∀ h,h≤3→fB h≤300∧fA h≤45:=by
 intro h hh
 match h with
 | 0 | 1 | 2 | 3=>decide
def FOk (l:List Int) (o:Option (List UInt8×List Int×Int)) (a b c:Nat):Prop:=∃ (s:List UInt8) (a':Nat),o=some (s,l,(a':Int))∧s.length≤b∧a≤a'∧a'≤a+c
theorem qc8 {l:List (List UInt8)} {n:Nat} (h:l.all (fun x=>decide (x.length≤n))=true) (k:Nat):(l.getD k []).length≤n:=by
 rw [List.getD_eq_getElem?_getD]
 cases hk:l[k]? with
 | none=>simp
 | some x=>
   rw [List.all_eq_true] at h
   simpa using h x (List.mem_of_getElem? hk)
theorem form_k (l:List Int) (deep:Int) (d:Nat) (dp0:Int) (l0:List Int) (a0:Int) (B A:Nat) (hB:B≤300) (hA:A≤45) (k:Nat) (hk:k<22) (V:Nat) (hV:V≤900) (hrec:k<18→∀ a:Nat,a≤V→FOk l (Rec81 d (IntKind.wrap IntKind.i64 (deep+1)) l a) a B A) (a:Nat) (ha:a+60≤V) (n:Nat) :
  FOk l (R81 M90 (Rec81 d) deep l0 a0 (n+1) (.l1004 k l a)) a (2*B+20) (2*A+2):=by
 show FOk l (T81 Ops.std M90 (Rec81 d) deep l0 a0 _ some _) a _ _
 unfold T81
 simp only [qak,qao,qam,qap,qaa,mt]
 by_cases h3:(k:Int)<3
 ·obtain ⟨s,a1,e1,e2,e3,e4⟩:=hrec (by omega) a (by omega)
  rw [if_pos h3,e1,ob_s]
  dsimp only
  simp only [List.length_append,List.length_cons,List.length_nil]
  rw [if_pos (by omega),if_pos (by omega)]
  exact ⟨_,a1,rfl,by simp;omega,by omega,by omega⟩
 ·rw [if_neg h3]
  by_cases h6:(k:Int)<6
  ·obtain ⟨s,a1,e1,e2,e3,e4⟩:=hrec (by omega) a (by omega)
   rw [if_pos h6,e1,ob_s]
   dsimp only
   simp only [List.length_append,List.length_cons,List.length_nil]
   rw [if_pos (by omega),if_pos (by omega)]
   exact ⟨_,a1,rfl,by simp;omega,by omega,by omega⟩
  ·rw [if_neg h6]
   by_cases h8:(k:Int)<8
   ·obtain ⟨s,a1,e1,e2,e3,e4⟩:=hrec (by omega) a (by omega)
    rw [if_pos h8,e1,ob_s]
    dsimp only
    rw [if_pos (by omega)]
    exact ⟨_,a1,rfl,by simp;omega,by omega,by omega⟩
   ·rw [if_neg h8]
    by_cases h11:(k:Int)<11
    ·obtain ⟨s,a1,e1,e2,e3,e4⟩:=hrec (by omega) a (by omega)
     rw [if_pos h11,e1,ob_s]
     dsimp only
     obtain ⟨j,a2,g1,g2,g3,g4⟩:=qdu l 0 a1 (by omega) 2 (by omega) (by omega)
     have g4':M90 2 l (a1:Int)=some ((j:Int),l,(a2:Int)):=g4
     rw [if_pos (by omega),g4',ob_s]
     dsimp only
     rw [if_pos (by omega)]
     obtain ⟨s2,a3,f1,f2,f3,f4⟩:=hrec (by omega) a2 (by omega)
     have hlen:=qc8 (n:=3) (l:=[([32,85,32]:List UInt8),([32,82,32]:List UInt8)]) rfl (Int.toNat (j:Int))
     generalize ([([32,85,32]:List UInt8),([32,82,32]:List UInt8)]:List (List UInt8)).getD (Int.toNat (j:Int)) []=x at hlen ⊢
     simp only [List.length_append,List.length_cons,List.length_nil]
     rw [if_pos (by omega),f1,ob_s]
     dsimp only
     rw [if_pos (by omega),if_pos (by omega)]
     exact ⟨_,a3,rfl,by simp;omega,by omega,by omega⟩
    ·rw [if_neg h11]
     by_cases h15:(k:Int)<15
     ·obtain ⟨s,a1,e1,e2,e3,e4⟩:=hrec (by omega) a (by omega)
      rw [if_pos h15,e1,ob_s]
      dsimp only
      obtain ⟨j,a2,g1,g2,g3,g4⟩:=qdu l 0 a1 (by omega) 3 (by omega) (by omega)
      have g4':M90 3 l (a1:Int)=some ((j:Int),l,(a2:Int)):=g4
      rw [if_pos (by omega),g4',ob_s]
      dsimp only
      rw [if_pos (by omega)]
      obtain ⟨s2,a3,f1,f2,f3,f4⟩:=hrec (by omega) a2 (by omega)
      have hlen:=qc8 (n:=4) (l:=[([32,38,38,32]:List UInt8),([32,124,124,32]:List UInt8),([32,45,62,32]:List UInt8)]) rfl (Int.toNat (j:Int))
      generalize ([([32,38,38,32]:List UInt8),([32,124,124,32]:List UInt8),([32,45,62,32]:List UInt8)]:List (List UInt8)).getD (Int.toNat (j:Int)) []=x at hlen ⊢
      simp only [List.length_append,List.length_cons,List.length_nil]
      rw [if_pos (by omega),f1,ob_s]
      dsimp only
      rw [if_pos (by omega),if_pos (by omega)]
      exact ⟨_,a3,rfl,by simp;omega,by omega,by omega⟩
     ·rw [if_neg h15]
      by_cases h17:(k:Int)<17
      ·obtain ⟨s,a1,e1,e2,e3,e4⟩:=hrec (by omega) a (by omega)
       rw [if_pos h17,e1,ob_s]
       dsimp only
       rw [if_pos (by omega)]
       exact ⟨_,a1,rfl,by simp;omega,by omega,by omega⟩
      ·rw [if_neg h17]
       by_cases h17':(k:Int)=17
       ·obtain ⟨s,a1,e1,e2,e3,e4⟩:=hrec (by omega) a (by omega)
        rw [if_pos h17',e1,ob_s]
        dsimp only
        rw [if_pos (by omega)]
        exact ⟨_,a1,rfl,by simp;omega,by omega,by omega⟩
       ·rw [if_neg h17']
        by_cases h18:(k:Int)=18
        ·rw [if_pos h18]
         obtain ⟨j,a2,g1,g2,g3,g4⟩:=qdu l 0 a (by omega) 2 (by omega) (by omega)
         have g4':M90 2 l (a:Int)=some ((j:Int),l,(a2:Int)):=g4
         rw [g4',ob_s]
         dsimp only
         rw [if_pos (by omega)]
         have hlen:=qc8 (n:=5) (l:=[([116,114,117,101]:List UInt8),([102,97,108,115,101]:List UInt8)]) rfl (Int.toNat (j:Int))
         exact ⟨_,a2,rfl,by omega,by omega,by omega⟩
        ·rw [if_neg h18]
         obtain ⟨j,a2,g1,g2,g3,g4⟩:=qdu l 0 a (by omega) 6 (by omega) (by omega)
         have g4':M90 6 l (a:Int)=some ((j:Int),l,(a2:Int)):=g4
         rw [g4',ob_s]
         dsimp only
         rw [if_pos (by omega)]
         have hlen:=qc8 (n:=10) (l:=[([91,120,61,61,49,93]:List UInt8),([91,112,64,97,93]:List UInt8),([91,121,60,49,93]:List UInt8),([91,113,64,98,38,38,120,62,48,93]:List UInt8),([91,120,61,61,121,93]:List UInt8),([91,112,64,98,93]:List UInt8)]) rfl (Int.toNat (j:Int))
         exact ⟨_,a2,rfl,by omega,by omega,by omega⟩
theorem FOk.mono {l:List Int} {o:Option (List UInt8×List Int×Int)} {a b c b' c':Nat} (h:FOk l o a b c) (hb:b≤b') (hc:c≤c'):FOk l o a b' c':=by
 obtain ⟨s,a',e1,e2,e3,e4⟩:=h
 exact ⟨s,a',e1,by omega,e3,by omega⟩
theorem form_h (l:List Int):∀ (h:Nat),h≤3→∀ (d:Nat),h<d→∀ (a:Nat),a≤400-100*h→FOk l (Rec81 d ((3-h:Nat):Int) l a) a (fB h) (fA h):=by
 intro h
 induction h with
 | zero=>
   intro hh d hd a ha
   obtain ⟨e,rfl⟩:∃ e,d=e+1:=⟨d-1,by omega⟩
   show FOk l (T81 Ops.std M90 (Rec81 e) ((3-0:Nat):Int) l a (R81 M90 (Rec81 e) ((3-0:Nat):Int) l a 1000000) some none) a _ _
   unfold T81
   obtain ⟨k,a1,e1,e2,e3,e4⟩:=qdu l 0 a (by omega) 22 (by omega) (by omega)
   have e4':M90 22 l (a:Int)=some ((k:Int),l,(a1:Int)):=e4
   rw [e4',ob_s]
   simp only [qak,qao,qaa]
   rw [if_pos (by omega),if_neg (by omega)]
   have ht:Int.tmod (k:Int) 4=((k % 4:Nat):Int):=by rw [show (4:Int)=((4:Nat):Int) from rfl,←Int.ofNat_tmod]
   rw [ht,show IntKind.wrap IntKind.i64 (18+((k % 4:Nat):Int))=((18+k % 4:Nat):Int) by rw [wrap64 (by omega) (by omega)];omega]
   have:=form_k l ((3-0:Nat):Int) e ((3-0:Nat):Int) l (a:Int) 0 0 (by omega) (by omega) (18+k % 4) (by omega) 900 (by omega) (fun h=>by omega) a1 (by omega) 999999
   obtain ⟨s,a',g1,g2,g3,g4⟩:=this
   exact ⟨s,a',g1,by simp [fB];omega,by omega,by simp [fA];omega⟩
 | succ h ih=>
   intro hh d hd a ha
   obtain ⟨e,rfl⟩:∃ e,d=e+1:=⟨d-1,by omega⟩
   have hb:=fB_le h (by omega)
   show FOk l (T81 Ops.std M90 (Rec81 e) ((3-(h+1):Nat):Int) l a (R81 M90 (Rec81 e) ((3-(h+1):Nat):Int) l a 1000000) some none) a _ _
   unfold T81
   obtain ⟨k,a1,e1,e2,e3,e4⟩:=qdu l 0 a (by omega) 22 (by omega) (by omega)
   have e4':M90 22 l (a:Int)=some ((k:Int),l,(a1:Int)):=e4
   rw [e4',ob_s]
   simp only [qak,qao,qaa]
   rw [if_neg (by omega)]
   have hdeep:IntKind.wrap IntKind.i64 (((3-(h+1):Nat):Int)+1)=((3-h:Nat):Int):=by rw [wrap64 (by omega) (by omega)];omega
   have hrec:∀ a:Nat,a≤400-100*h→FOk l (Rec81 e (IntKind.wrap IntKind.i64 (((3-(h+1):Nat):Int)+1)) l a) a (fB h) (fA h):=fun a ha=>by
    rw [hdeep];exact ih (by omega) e (by omega) a ha
   have step:=fun (k:Nat) (hk:k<22)=>form_k l ((3-(h+1):Nat):Int) e ((3-(h+1):Nat):Int) l (a:Int) (fB h) (fA h) (by omega) (by omega) k hk (400-100*h) (by omega) (fun _=>hrec) a1 (by omega) 999999
   have fin:∀ o,FOk l o a1 (2*fB h+20) (2*fA h+2)→FOk l o a (fB (h+1)) (fA (h+1)):=fun o ho=>by
    obtain ⟨s,a',g1,g2,g3,g4⟩:=ho
    exact ⟨s,a',g1,by simp only [fB];omega,by omega,by simp only [fA];omega⟩
   have ht:Int.tmod (k:Int) 4=((k % 4:Nat):Int):=by rw [show (4:Int)=((4:Nat):Int) from rfl,←Int.ofNat_tmod]
   split
   ·rw [if_neg (by omega),ht,show IntKind.wrap IntKind.i64 (18+((k % 4:Nat):Int))=((18+k % 4:Nat):Int) by rw [wrap64 (by omega) (by omega)];omega]
    exact fin _ (step (18+k % 4) (by omega))
   ·exact fin _ (step k e1)
theorem formula_ok (l:List Int):∃ s:List UInt8,M40 l=some s∧s.length≤300:=by
 obtain ⟨s,a',e1,e2,e3,e4⟩:=form_h l 3 (by omega) 1000000 (by omega) 0 (by omega)
 refine ⟨s,?_,Nat.le_trans e2 (by decide)⟩
 show T40 Ops.std M81 l some=_
 unfold T40
 have e1':M81 0 l 0=some (s,l,(a':Int)):=e1
 rw [e1',ob_s]
theorem known13_ok:M38=some true:=by kernel_rfl
def rowK (b i:Nat) (r:List Int):Prop:=∀ j,j<r.length→∃ p:Nat,r.getD j 0=(p:Int)∧b≤p∧p<b+i∧(0<j→r.getD (j-1) 0<(p:Int))
theorem rowK.nil (b i:Nat):rowK b i []:=fun j h=>by simp at h
section
variable {p0:List Int} {f:List Prt} {K:List (List Int)} {n:Nat} (hK:K.length=n) (hf:f.length=n) (hn:n≤100) (hr:∀ i,i<n→rowK 0 i (K.getD i [])) (h2:∀ r∈K,r.length≤2)
include hK hf hn hr h2
end
def f5 (b:UInt8):Bool:=b == 40 || (b == 41 || (b == 91 || (b == 93 || b == 32)))
theorem cnt5 {w:List UInt8} (h:∀ b∈w,f5 b=false):w.countP f5=0:=by
 rw [List.countP_eq_zero]
 intro b hb
 rw [h b hb]
 decide
theorem f5_free {c:UInt8} (h:freeB c=false):f5 c=false:=by
 unfold freeB at h
 unfold f5
 simp only [Bool.or_eq_false_iff] at h ⊢
 exact ⟨h.1,h.2.1,h.2.2.2.2.2.1,h.2.2.2.2.2.2.1,h.2.2.2.2.2.2.2⟩
theorem word_5 {w:List UInt8} (h:isWordP w=true):w.countP f5=0:=cnt5 fun b hb=>f5_free (word_nf b (by
 cases w with
 | nil=>cases hb
 | cons c w=>
   simp only [isWordP,Bool.and_eq_true] at h
   rcases List.mem_cons.1 hb with rfl | hb
   ·exact qbg h.1.1
   ·exact List.all_eq_true.1 h.1.2 b hb)).1
theorem leaf_5 {t:Trm} (h:nulT t):(leafW t).countP f5=0:=by
 unfold leafW
 split
 ·rename_i h1
  exact cnt5 fun b hb=>f5_free (digit_nf b (List.all_eq_true.1 (dgT_is (qcn h.1 h1)).2.1 b hb)).1
 ·split
  ·rename_i h2
   exact word_5 (nulT_2 h h2)
  ·have h3:t.1=3:=by have:=h.2;omega
   rw [List.countP_append,List.countP_append,word_5 (qc6 h h3).1,word_5 (qc6 h h3).2]
   rfl
theorem asc_br {c:Bool} {s:List UInt8} (h:∀ b∈s,b.toNat<128):∀ b∈brW c s,b.toNat<128:=fun b hb=>by
 cases c with
 | true=>
   simp only [brW,if_true,List.mem_append,List.mem_singleton] at hb
   rcases hb with (rfl | hb) | rfl
   ·decide
   ·exact h b hb
   ·decide
 | false=>exact h b hb
theorem qc9:∀ t:Fm Trm,t.wf rightE→∀ b∈t.prf,b.toNat<128
 | .nul p,h,b,hb=>by
   obtain ⟨h1,h2,h3⟩:=h
   simp only [Fm.prf,nulW] at hb
   rcases qev h1 with hp | hp | hp
   ·rw [if_pos hp] at hb
    revert b
    decide
   ·rw [if_neg (by omega),if_pos hp] at hb
    revert b
    decide
   ·obtain ⟨t,t1,t2,t3,t4,_⟩:=qfg (h2 hp)
    rw [if_neg (by omega),if_neg (by omega),t4] at hb
    simp only [List.mem_append,List.mem_singleton] at hb
    rcases hb with (rfl | hb) | rfl
    ·decide
    ·exact prx_ascii t t1 b hb
    ·decide
 | .un p x,h,b,hb=>by
   simp only [Fm.prf,List.mem_append] at hb
   rcases hb with hb | hb
   ·rcases opn_un h.1 with e | e | e | e<;>rw [e] at hb<;>revert b<;>decide
   ·exact asc_br (qc9 x h.2.2) b hb
 | .bi p x y,h,b,hb=>by
   simp only [Fm.prf,List.mem_append] at hb
   rcases hb with (hb | hb) | hb
   ·exact asc_br (qc9 x h.2.2.1) b hb
   ·rcases opn_bi h.1 with e | e | e | e | e<;>rw [e] at hb<;>revert b<;>decide
   ·exact asc_br (qc9 y h.2.2.2) b hb
theorem bent_loop (p0:List UInt8) (l:List Int):∀ (t i n:Nat) (s:List UInt8),i+t=2→t<n→s.length≤1000+2*i→
  ∃ s',R15 M24 p0 l n (.l0 s i)=some s'∧s'.length≤1010
 | t,i,0,s,hi,hn,hs=>by omega
 | 0,i,n+1,s,hi,hn,hs=>by
   show ∃ s',T15 Ops.std _ p0 l _ some _=some s'∧_
   unfold T15
   simp only [qak,qaa]
   have h2:¬ ((i:Int)<2):=by omega
   simp only [if_neg h2]
   refine ⟨s,?_,by omega⟩
   split<;>rfl
 | t+1,i,n+1,s,hi,hn,hs=>by
   have ih:=bent_loop p0 l t (i+1) n
   show ∃ s',T15 Ops.std _ p0 l _ some _=some s'∧_
   unfold T15
   have hw:IntKind.wrap IntKind.i64 ((i:Int)+1)=((i+1:Nat):Int):=qah (by omega)
   simp only [qak,qao,qam,qap,qaa,mt,hw,qaf]
   by_cases h1:(i:Int)<(l.length:Int)
   ·rw [if_pos h1,if_pos (by omega)]
    by_cases h3:(0:Int)<(s.length:Int)
    ·rw [if_pos h3,if_pos (by omega),if_neg (by omega)]
     obtain ⟨a,ha,hp⟩:=pickN (IntKind.wrap IntKind.i64 (Int.tdiv (l.getD i (Ty.dflt ty3)) 17)) s.length (by omega) (by omega)
     obtain ⟨b,hb,hq⟩:=pickN (l.getD i (Ty.dflt ty3)) 17 (by omega) (by omega)
     obtain ⟨c,hc,hr⟩:=pickN (IntKind.wrap IntKind.i64 (Int.tdiv (l.getD i (Ty.dflt ty3)) 7)) 2 (by omega) (by omega)
     have hq':M24 (l.getD i (Ty.dflt ty3)) 17=some (b:Int):=hq
     have hr':M24 (IntKind.wrap IntKind.i64 (Int.tdiv (l.getD i (Ty.dflt ty3)) 7)) 2=some (c:Int):=hr
     have hlen:=qc8 (n:=2) (l:=[[32],[40],[41],[91],[93],[85],[88],[33],[45],[57],[61],[60],[64],[119],[],[38,38],[82]]) rfl b
     rw [hp,ob_s,if_pos (by omega),hq',ob_s]
     simp only [qaf]
     generalize ([[32],[40],[41],[91],[93],[85],[88],[33],[45],[57],[61],[60],[64],[119],[],[38,38],[82]]:List (List UInt8)).getD b []=x at hlen ⊢
     have hac:IntKind.wrap IntKind.i64 ((a:Int)+(c:Int))=((a+c:Nat):Int):=by rw [wrap64 (by omega) (by omega)];omega
     simp only [List.length_append,List.length_drop,List.length_take]
     rw [if_pos (by omega),if_pos (by omega),if_pos (by omega),if_pos (by omega),if_neg (by omega),hr',ob_s,hac]
     rw [if_pos (by omega)]
     simp only [qaf]
     rw [if_pos (by omega)]
     exact ih _ (by omega) (by omega) (by simp only [List.length_append,List.length_drop,List.length_take];omega)
    ·rw [if_neg h3]
     exact ⟨s,rfl,by omega⟩
   ·rw [if_neg h1]
    exact ⟨s,rfl,by omega⟩
theorem Bent_ok (s:List UInt8) (l:List Int) (hs:s.length≤1000):∃ s',M15 s l=some s'∧s'.length≤1010:=by
 have h:=bent_loop s l 2 0 1000000 s (by omega) (by omega) (by omega)
 show ∃ s',T15 Ops.std M24 s l (R15 M24 s l 1000000) some none=some s'∧_
 unfold T15
 exact h
def stk13:List Prt→List (Fm Trm)→List (Fm Trm)
 | [],st=>st
 | p::r,st=>if opn p.1=0 then stk13 r (.nul p::st) else if opn p.1=1 then (match st with
    | a::q=>stk13 r (.un p a::q)
    | []=>[]) else match st with
    | b::a::q=>stk13 r (.bi p a b::q)
    | _=>[]
theorem qfi {E:List Trm→Bool} (t:Fm Trm):t.wf E→∀ r st,stk13 (t.flat++r) st=stk13 r (t::st):=by
 induction t with
 | nul p=>
   intro h r st
   simp only [Fm.flat,List.cons_append,List.nil_append,stk13]
   rw [if_pos h.1]
 | un p a ih=>
   intro h r st
   simp only [Fm.flat,List.append_assoc,List.cons_append,List.nil_append]
   rw [ih h.2.2]
   simp only [stk13]
   rw [if_neg (by rw [h.1];decide),if_pos h.1]
 | bi p a b iha ihb=>
   intro h r st
   simp only [Fm.flat,List.append_assoc,List.cons_append,List.nil_append]
   rw [iha h.2.2.1,ihb h.2.2.2]
   simp only [stk13]
   rw [if_neg (by rw [h.1];decide),if_neg (by rw [h.1];decide)]
theorem flat_inj13 {E:List Trm→Bool} {t u:Fm Trm} (ht:t.wf E) (hu:u.wf E) (h:t.flat=u.flat):t=u:=by
 have h1:=qfi t ht [] []
 have h2:=qfi u hu [] []
 rw [h,h2] at h1
 simp only [stk13,List.cons.injEq,and_true] at h1
 exact h1.symm
def outF (s:List UInt8) (i k:Nat):List UInt8:=s.take i++[32]++(s.take k).drop (i+1)++[32]++(s.take s.length).drop (k+1)
theorem outF_cnt {s:List UInt8} {i k:Nat} (hi:i<k) (hk:k<s.length) (h40:s.getD i 0=40):(outF s i k).countP b40+1≤s.countP b40:=by
 have e1:s.countP b40=(s.take i).countP b40+(s.drop i).countP b40:=by rw [←List.countP_append,List.take_append_drop]
 have e2:s.drop i=40::s.drop (i+1):=by rw [qbf 0 (by omega),h40]
 have e3:(s.drop (i+1)).countP b40=((s.drop (i+1)).take (k-(i+1))).countP b40+((s.drop (i+1)).drop (k-(i+1))).countP b40:=by rw [←List.countP_append,List.take_append_drop]
 have e4:(s.drop (i+1)).drop (k-(i+1))=s.drop k:=by rw [List.drop_drop];congr 1;omega
 have e5:s.drop k=s.getD k 0::s.drop (k+1):=qbf 0 hk
 have e6:(s.drop (k+1)).countP b40≤(s.drop k).countP b40:=by rw [e5,List.countP_cons];omega
 have e7:(40::s.drop (i+1)).countP b40=(s.drop (i+1)).countP b40+1:=by rw [List.countP_cons];rfl
 have e8:([32]:List UInt8).countP b40=0:=rfl
 unfold outF
 simp only [List.countP_append,List.take_length,List.drop_take,e8]
 rw [e4] at e3
 rw [e2,e7] at e1
 omega
def b41 (b:UInt8):Bool:=b == 41
def b91 (b:UInt8):Bool:=b == 91
def b93 (b:UInt8):Bool:=b == 93
def PreB (s:List UInt8):Prop:=(∀ k,(s.take k).countP b41≤(s.take k).countP b40)∧s.countP b41=s.countP b40
def SqB (s:List UInt8):Prop:=s.countP b91=s.countP b93
theorem PreB.app {s t:List UInt8} (h1:PreB s) (h2:PreB t):PreB (s++t):=by
 refine ⟨fun k=>?_,?_⟩
 ·rw [List.take_append,List.countP_append,List.countP_append]
  have a1:=h1.1 k
  have a2:=h2.1 (k-s.length)
  omega
 ·rw [List.countP_append,List.countP_append,h1.2,h2.2]
theorem SqB.app {s t:List UInt8} (h1:SqB s) (h2:SqB t):SqB (s++t):=by
 unfold SqB at h1 h2 ⊢
 rw [List.countP_append,List.countP_append,h1,h2]
theorem qda {w:List UInt8} {p:UInt8→Bool} (h:∀ b∈w,p b=false):w.countP p=0:=by
 rw [List.countP_eq_zero]
 intro b hb
 rw [h b hb]
 decide
theorem PreB.free {s:List UInt8} (h:∀ b∈s,b41 b=false) (h2:∀ b∈s,b40 b=false):PreB s:=by
 refine ⟨fun k=>?_,?_⟩
 ·rw [qda (fun b hb=>h b (List.mem_of_mem_take hb))];omega
 ·rw [qda h,qda h2]
theorem SqB.free {s:List UInt8} (h:∀ b∈s,b91 b=false) (h2:∀ b∈s,b93 b=false):SqB s:=by
 unfold SqB
 rw [qda h,qda h2]
theorem PreB.par {s:List UInt8} (h:PreB s):PreB ([40]++s++[41]):=by
 have c1:([41]:List UInt8).countP b41=1:=rfl
 have c2:([41]:List UInt8).countP b40=0:=rfl
 refine ⟨fun k=>?_,?_⟩
 ·cases k with
  | zero=>simp
  | succ k=>
    have e:([40]++s++[41]).take (k+1)=40::(s.take k++([41]:List UInt8).take (k-s.length)):=by
     rw [List.append_assoc,List.cons_append,List.nil_append,List.take_succ_cons,List.take_append]
    rw [e,List.countP_cons,List.countP_cons,List.countP_append,List.countP_append]
    have a1:=h.1 k
    have a2:(([41]:List UInt8).take (k-s.length)).countP b41≤1:=Nat.le_trans List.countP_le_length (by rw [List.length_take];simp;omega)
    rw [show (if b40 40=true then 1 else 0:Nat)=1 from rfl,show (if b41 40=true then 1 else 0:Nat)=0 from rfl]
    omega
 ·have:=h.2
  rw [List.countP_append,List.countP_append,List.countP_append,List.countP_append,show ([40]:List UInt8).countP b41=0 from rfl,show ([40]:List UInt8).countP b40=1 from rfl,c1,c2]
  omega
theorem PreB.br {s:List UInt8} (h:PreB s) (b:Bool):PreB (brW b s):=by
 cases b with
 | true=>exact h.par
 | false=>exact h
theorem SqB.br {s:List UInt8} (h:SqB s) (b:Bool):SqB (brW b s):=by
 cases b with
 | true=>exact ((SqB.free (s:=[40]) (by decide) (by decide)).app h).app (SqB.free (s:=[41]) (by decide) (by decide))
 | false=>exact h
theorem f5_brs {c:UInt8} (h:f5 c=false):b40 c=false∧b41 c=false∧b91 c=false∧b93 c=false:=by
 unfold f5 at h
 simp only [Bool.or_eq_false_iff] at h
 exact ⟨h.1,h.2.1,h.2.2.1,h.2.2.2.1⟩
theorem both5 {s:List UInt8} (h:s.countP f5=0):PreB s∧SqB s:=by
 rw [List.countP_eq_zero] at h
 have h':∀ b∈s,f5 b=false:=fun b hb=>by
  cases hf:f5 b with
  | false=>rfl
  | true=>exact absurd hf (h b hb)
 exact ⟨.free (fun b hb=>(f5_brs (h' b hb)).2.1) (fun b hb=>(f5_brs (h' b hb)).1),.free (fun b hb=>(f5_brs (h' b hb)).2.2.1) (fun b hb=>(f5_brs (h' b hb)).2.2.2)⟩
theorem prx_fit:∀ t:Et,t.wf→PreB t.prx∧SqB t.prx
 | .nul t,h=>both5 (leaf_5 h)
 | .un k x,h=>by
   obtain ⟨a1,a2⟩:=prx_fit x h.2
   have h2:(unW k).countP f5=0:=by rcases h.1 with rfl | rfl<;>rfl
   exact ⟨(both5 h2).1.app (a1.br _),(both5 h2).2.app (a2.br _)⟩
 | .bi k x y,h=>by
   obtain ⟨a1,a2⟩:=prx_fit x h.2.1
   obtain ⟨c1,c2⟩:=prx_fit y h.2.2
   have h2:(opW k).countP f5=0:=by
    rcases qb3 h.1 with rfl | rfl | rfl | rfl | rfl | rfl | rfl | rfl | rfl | rfl | rfl<;>rfl
   exact ⟨((a1.br _).app (both5 h2).1).app (c1.br _),((a2.br _).app (both5 h2).2).app (c2.br _)⟩
theorem prf_fit:∀ t:Fm Trm,t.wf rightE→PreB t.prf∧SqB t.prf
 | .nul p,h=>by
   obtain ⟨h1,h2,h3⟩:=h
   simp only [Fm.prf,nulW]
   rcases qev h1 with hp | hp | hp
   ·rw [if_pos hp];exact both5 rfl
   ·rw [if_neg (by omega),if_pos hp];exact both5 rfl
   ·obtain ⟨t,t1,t2,t3,t4,_⟩:=qfg (h2 hp)
    obtain ⟨a1,a2⟩:=prx_fit t t1
    rw [if_neg (by omega),if_neg (by omega),t4]
    refine ⟨((PreB.free (s:=[91]) (by decide) (by decide)).app a1).app (PreB.free (s:=[93]) (by decide) (by decide)),?_⟩
    unfold SqB at a2 ⊢
    rw [List.countP_append,List.countP_append,List.countP_append,List.countP_append,a2,show ([91]:List UInt8).countP b91=1 from rfl,show ([91]:List UInt8).countP b93=0 from rfl,show ([93]:List UInt8).countP b91=0 from rfl,show ([93]:List UInt8).countP b93=1 from rfl]
    omega
 | .un p x,h=>by
   obtain ⟨a1,a2⟩:=prf_fit x h.2.2
   have hu:PreB (unaW p.1)∧SqB (unaW p.1):=by
    rcases opn_un h.1 with e | e | e | e<;>rw [e]<;>exact ⟨.free (by decide) (by decide),.free (by decide) (by decide)⟩
   exact ⟨hu.1.app (a1.br _),hu.2.app (a2.br _)⟩
 | .bi p x y,h=>by
   obtain ⟨a1,a2⟩:=prf_fit x h.2.2.1
   obtain ⟨c1,c2⟩:=prf_fit y h.2.2.2
   have hu:PreB (binW p.1)∧SqB (binW p.1):=by
    rcases opn_bi h.1 with e | e | e | e | e<;>rw [e]<;>exact ⟨.free (by decide) (by decide),.free (by decide) (by decide)⟩
   exact ⟨((a1.br _).app hu.1).app (c1.br _),((a2.br _).app hu.2).app (c2.br _)⟩
theorem qea (p:UInt8→Bool) (s:List UInt8) {k:Nat} (h:k<s.length):(s.take (k+1)).countP p=(s.take k).countP p+(if p (s.getD k 0) then 1 else 0):=by
 rw [take_snoc s k h,List.countP_append]
 congr 1
 rw [List.countP_cons,List.countP_nil,Nat.zero_add]
noncomputable abbrev fbR (p0 p1:List Int):=R11 M38 M40 M15 M39 M42 M43 p0 p1
theorem byte_is {c d:UInt8}:(((c.toNat:Nat):Int)=((d.toNat:Nat):Int))↔c=d:=
 ⟨fun h=>UInt8.toNat_inj.1 (by omega),fun h=>by rw [h]⟩
section
variable {p0 p1:List Int} {t:Fm Trm}
theorem fout_other (ht:t.wf rightE) {i k:Nat} (hi:i<k) (hk:k<t.prf.length) (h40:t.prf.getD i 0=40) {y:Int×Int×List Prt} (hy:FParseIs (outF t.prf i k) y) (h0:y.1=0):t.flat≠y.2.2:=fun e=>by
 obtain ⟨u,u1,u2,u3⟩:=fparse_need hy h0
 have:=flat_inj13 ht u1 (e.trans u2)
 subst this
 have h2:=outF_cnt hi hk h40
 omega
theorem fback_l0 (ht:t.wf rightE) (hl:t.size≤24) (hsm:smallF t.flat) (q:Nat):∀ (pos m:Nat) (deep:Int) (st:List Int),pos+q=t.prf.length→q<m→deep=(((t.prf.take pos).countP b91:Nat):Int)-(((t.prf.take pos).countP b93:Nat):Int)→st.length+(t.prf.take pos).countP b41=(t.prf.take pos).countP b40→(∀ x∈st,∃ i:Nat,x=(i:Int)∧i<pos∧t.prf.getD i 0=40)→
  fbR p0 p1 m (.l0 t.prf deep t.flat st t.prf pos)=some true:=by
 have hlen:=t.prf_len ht
 obtain ⟨fit1,fit2⟩:=prf_fit t ht
 induction q with
 | zero=>
   intro pos m deep st hq hm hd hst hsx
   obtain ⟨m,rfl⟩:∃ n,m=n+1:=⟨m-1,by omega⟩
   have hU:fbR p0 p1 (m+1) (.l0 t.prf deep t.flat st t.prf pos)=T11 Ops.std M38 M40 M15 M39 M42 M43 p0 p1 (fbR p0 p1 m) some (some (.l0 t.prf deep t.flat st t.prf pos)):=rfl
   rw [hU]
   unfold T11
   rw [List.take_of_length_le (by omega)] at hd hst
   have h2:=fit1.2
   have h3:t.prf.countP b91=t.prf.countP b93:=fit2
   simp only [qak,qao,qaa]
   rw [if_neg (by omega),if_pos (by omega),decide_eq_true (by omega)]
 | succ q ihq=>
   intro pos m deep st hq hm hd hst hsx
   obtain ⟨m,rfl⟩:∃ n,m=n+1:=⟨m-1,by omega⟩
   have hU:fbR p0 p1 (m+1) (.l0 t.prf deep t.flat st t.prf pos)=T11 Ops.std M38 M40 M15 M39 M42 M43 p0 p1 (fbR p0 p1 m) some (some (.l0 t.prf deep t.flat st t.prf pos)):=rfl
   rw [hU]
   unfold T11
   have hlt:pos<t.prf.length:=by omega
   obtain ⟨c,hc⟩:∃ c,t.prf.getD pos 0=c:=⟨_,rfl⟩
   have has:=qc9 t ht (t.prf.getD pos 0) (by rw [List.getD_eq_getElem?_getD,List.getElem?_eq_getElem hlt];exact List.getElem_mem _)
   rw [hc] at has
   have k40:=qea b40 t.prf hlt
   have k41:=qea b41 t.prf hlt
   have k91:=qea b91 t.prf hlt
   have k93:=qea b93 t.prf hlt
   rw [hc] at k40 k41 k91 k93
   have fitk:=fit1.1 (pos+1)
   have b40l:(t.prf.take pos).countP b40≤pos:=Nat.le_trans List.countP_le_length (by rw [List.length_take];omega)
   have b91l:(t.prf.take pos).countP b91≤pos:=Nat.le_trans List.countP_le_length (by rw [List.length_take];omega)
   have b93l:(t.prf.take pos).countP b93≤pos:=Nat.le_trans List.countP_le_length (by rw [List.length_take];omega)
   have hwu:IntKind.wrap IntKind.i64 (deep+1)=deep+1:=wrap64 (by omega) (by omega)
   have hwd:IntKind.wrap IntKind.i64 (deep-1)=deep-1:=wrap64 (by omega) (by omega)
   have hwp:IntKind.wrap IntKind.i64 ((pos:Int)+1)=((pos+1:Nat):Int):=qah (by omega)
   have ih:=fun deep st=>ihq (pos+1) m deep st (by omega) (by omega)
   have hin:(0:Int)≤(pos:Int)∧(pos:Int)<(t.prf.length:Int):=by omega
   have hold:∀ x∈st,∃ i:Nat,x=(i:Int)∧i<pos+1∧t.prf.getD i 0=40:=fun x hx=>by
    obtain ⟨i,i1,i2,i3⟩:=hsx x hx
    exact ⟨i,i1,by omega,i3⟩
   simp only [hwp]
   simp only [qak,qbp,qam,qao,qap,qaa,qaf,hc,hwu,hwd,mt,List.length_cons,List.length_nil]
   rw [if_pos hin.2,if_pos (by omega),if_pos hin]
   have e91:((((91:UInt8).toNat:Nat):Int))=91:=rfl
   have e93:((((93:UInt8).toNat:Nat):Int))=93:=rfl
   have e40:((((40:UInt8).toNat:Nat):Int))=40:=rfl
   have e41:((((41:UInt8).toNat:Nat):Int))=41:=rfl
   by_cases h91:c=91
   ·subst h91
    rw [show (if b40 91=true then 1 else 0:Nat)=0 from rfl] at k40
    rw [show (if b41 91=true then 1 else 0:Nat)=0 from rfl] at k41
    rw [show (if b91 91=true then 1 else 0:Nat)=1 from rfl] at k91
    rw [show (if b93 91=true then 1 else 0:Nat)=0 from rfl] at k93
    rw [if_pos e91]
    exact ih _ st (by omega) (by omega) hold
   have n91:¬ ((c.toNat:Nat):Int)=91:=fun h=>h91 (byte_is.1 (h.trans e91.symm))
   rw [if_neg n91]
   by_cases h93:c=93
   ·subst h93
    rw [show (if b40 93=true then 1 else 0:Nat)=0 from rfl] at k40
    rw [show (if b41 93=true then 1 else 0:Nat)=0 from rfl] at k41
    rw [show (if b91 93=true then 1 else 0:Nat)=0 from rfl] at k91
    rw [show (if b93 93=true then 1 else 0:Nat)=1 from rfl] at k93
    rw [if_pos e93]
    exact ih _ st (by omega) (by omega) hold
   have n93:¬ ((c.toNat:Nat):Int)=93:=fun h=>h93 (byte_is.1 (h.trans e93.symm))
   rw [if_neg n93]
   by_cases h40:c=40
   ·subst h40
    rw [show (if b40 40=true then 1 else 0:Nat)=1 from rfl] at k40
    rw [show (if b41 40=true then 1 else 0:Nat)=0 from rfl] at k41
    rw [show (if b91 40=true then 1 else 0:Nat)=0 from rfl] at k91
    rw [show (if b93 40=true then 1 else 0:Nat)=0 from rfl] at k93
    rw [if_pos e40,if_pos (by omega)]
    refine ih _ _ (by omega) (by simp only [List.length_append,List.length_cons,List.length_nil];omega) fun x hx=>?_
    rcases List.mem_append.1 hx with hx | hx
    ·exact hold x hx
    ·simp only [List.mem_singleton] at hx
     exact ⟨pos,hx,by omega,hc⟩
   have n40:¬ ((c.toNat:Nat):Int)=40:=fun h=>h40 (byte_is.1 (h.trans e40.symm))
   rw [if_neg n40]
   by_cases h41:c=41
   ·subst h41
    rw [show (if b40 41=true then 1 else 0:Nat)=0 from rfl] at k40
    rw [show (if b41 41=true then 1 else 0:Nat)=1 from rfl] at k41
    rw [show (if b91 41=true then 1 else 0:Nat)=0 from rfl] at k91
    rw [show (if b93 41=true then 1 else 0:Nat)=0 from rfl] at k93
    have hne:0<st.length:=by omega
    have hwl:IntKind.wrap IntKind.i64 (((st.length:Nat):Int)-1)=((st.length-1:Nat):Int):=by rw [wrap64 (by omega) (by omega)];omega
    obtain ⟨i,i1,i2,i3⟩:=hsx (st.getD (st.length-1) (Ty.dflt ty3)) (by
     rw [List.getD_eq_getElem?_getD,List.getElem?_eq_getElem (by omega)]
     exact List.getElem_mem _)
    have hwi:IntKind.wrap IntKind.i64 ((i:Int)+1)=((i+1:Nat):Int):=qah (by omega)
    rw [if_pos e41,if_neg (by omega)]
    simp only [hwl,qaf,i1]
    simp only [hwi,qaf,List.drop_zero]
    have a1:(0:Int)≤((st.length-1:Nat):Int)∧((st.length-1:Nat):Int)<((st.length:Nat):Int):=by omega
    have a2:(0:Int)≤((st.length-1:Nat):Int)∧((st.length-1:Nat):Int)<((st.length+1:Nat):Int):=by omega
    have a3:(0:Int)≤(i:Int)∧(i:Int)<((t.prf.length+1:Nat):Int):=by omega
    have a4:(0:Int)≤(pos:Int)∧(pos:Int)<((t.prf.length+1:Nat):Int):=by omega
    have a5:(0:Int)≤((pos+1:Nat):Int)∧((pos+1:Nat):Int)<((t.prf.length+1:Nat):Int):=by omega
    have g0:(0:Int)≤((i+1:Nat):Int):=by omega
    have g1:((i+1:Nat):Int)≤(pos:Int):=by omega
    have l1:(t.prf.take i).length≤17000:=by rw [List.length_take];omega
    have l2:(List.drop (i+1) (t.prf.take pos)).length≤17000:=by rw [List.length_drop,List.length_take];omega
    have l3:(List.drop (pos+1) (t.prf.take t.prf.length)).length≤17000:=by rw [List.length_drop,List.length_take];omega
    have m1:((t.prf.take i).length+1)*1≤140737488355328:=by omega
    have m2:((t.prf.take i++[32]).length+(List.drop (i+1) (t.prf.take pos)).length)*1≤140737488355328:=by simp only [List.length_append,List.length_cons,List.length_nil];omega
    have m3:((t.prf.take i++[32]++List.drop (i+1) (t.prf.take pos)).length+1)*1≤140737488355328:=by simp only [List.length_append,List.length_cons,List.length_nil];omega
    have m4:((t.prf.take i++[32]++List.drop (i+1) (t.prf.take pos)++[32]).length+(List.drop (pos+1) (t.prf.take t.prf.length)).length)*1≤140737488355328:=by simp only [List.length_append,List.length_cons,List.length_nil];omega
    obtain ⟨y,hy,hp⟩:=qcu (outF t.prf i pos)
    unfold outF at hp
    have hnext:fbR p0 p1 m (.l0 t.prf deep t.flat (st.take (st.length-1)) t.prf (pos+1))=some true:=
     ih _ _ (by omega) (by rw [List.length_take];omega) (fun x hx=>hold x (List.mem_of_mem_take hx))
    simp only [if_pos a1,if_pos a2,if_pos a3,if_pos a4,if_pos a5,if_pos g0,decide_eq_true g1,cond_true,if_pos m1,if_pos m2,if_pos m3,if_pos m4,hp,ob_s]
    by_cases hd0:deep=0
    ·rw [if_pos hd0]
     by_cases h0:y.1=0
     ·rw [if_pos h0,tells_f (qfh hsm) (fout_other ht i2 hlt i3 hy h0),ob_s]
      exact hnext
     ·rw [if_neg h0]
      exact hnext
    ·rw [if_neg hd0]
     exact hnext
   have n41:¬ ((c.toNat:Nat):Int)=41:=fun h=>h41 (byte_is.1 (h.trans e41.symm))
   rw [if_neg n41]
   have z:∀ d:UInt8,c≠d→(c == d)=false:=fun d h=>by simpa using h
   rw [show b40 c=false from z 40 h40] at k40
   rw [show b41 c=false from z 41 h41] at k41
   rw [show b91 c=false from z 91 h91] at k91
   rw [show b93 c=false from z 93 h93] at k93
   simp only [Bool.false_eq_true,if_false,Nat.add_zero] at k40 k41 k91 k93
   exact ih _ st (by omega) (by omega) hold
end
theorem plainFormulaBack (p0 p1:List Int) (w0:Ty.wf ty22 p0) (w1:Ty.wf ty22 p1):M11 p0 p1=some true:=by
 have hM:M11 p0 p1=T11 Ops.std M38 M40 M15 M39 M42 M43 p0 p1 (fbR p0 p1 1000000) some none:=rfl
 obtain ⟨s,hs,hsl⟩:=formula_ok p0
 obtain ⟨s',hs',_⟩:=Bent_ok s p1 (by omega)
 obtain ⟨y,hy,hp⟩:=qcu s'
 rw [hM]
 unfold T11
 simp only [known13_ok,ob_s,Bool.not_true,cond_false,hs,hs',hp,qao,qa7,qaa]
 by_cases h0:y.1=0
 ·rw [if_neg (fun h=>h h0)]
  rcases hy.good with ⟨_,t,t1,t2,t3,t4⟩ | ⟨h1,_⟩
  ·obtain ⟨z,hz,hpz⟩:=qcu t.prf
   have hzz:=hz.det (prf_parse t1 t3)
   subst hzz
   have hfl:=t.flat_len
   have hsm:smallF t.flat:=⟨by omega,fun p hp=>by have:=(t4 p hp).1;omega⟩
   have hsame:=tells_t (qfh (g:=t.flat) hsm) rfl
   rw [t2,qex t1 t4 (by omega),ob_s,hpz,ob_s]
   dsimp only
   rw [if_neg (by simp),hsame,ob_s]
   simp only [Bool.not_true,cond_false]
   rw [qex t1 t4 (by omega),ob_s]
   simp only [beq_self_eq_true,Bool.not_true,cond_false]
   have hlen:=t.prf_len t1
   exact fback_l0 t1 t3 hsm t.prf.length 0 1000000 0 [] (by omega) (by omega) (by simp) (by simp) (fun x hx=>by cases hx)
  ·exact absurd h0 h1
 ·rw [if_pos h0]
end Go.Proofs.YtkmpkebaloejhaaDoor.Av
