/- The plain law of FormulaBlanks: what its twin computes answers true. Conditions: none. -/
import Derived.Test.YtkmpkebaloejhaaDoorPFormulaBlanksa
set_option linter.unusedSimpArgs false
set_option linter.unusedVariables false
set_option maxRecDepth 100000
namespace Go.Proofs.YtkmpkebaloejhaaDoor.Av
open Go
theorem wordLen {w:List UInt8} (h:isWordP w=true):w.length≤8:=by
 cases w with
 | nil=>simp
 | cons b r=>
   simp only [isWordP,Bool.and_eq_true,decide_eq_true_eq] at h
   simpa using h.2
theorem mayLen {t:Trm} (h:mayT t=true):t.2.2.1.length≤8∧t.2.2.2.length≤8:=by
 unfold mayT at h
 split at h
 ·simp only [Bool.and_eq_true,beq_iff_eq] at h
  rw [h.1.2,h.2];simp
 ·split at h
  ·simp only [Bool.and_eq_true,beq_iff_eq] at h
   rw [h.2];exact ⟨wordLen h.1.2,by simp⟩
  ·split at h
   ·simp only [Bool.and_eq_true] at h
    exact ⟨wordLen h.1.2,wordLen h.2⟩
   ·simp only [Bool.and_eq_true,beq_iff_eq] at h
    rw [h.1.2,h.2];simp
def dgT (n:Int):List UInt8:=(itoaF n).getD []
theorem itoa_is {n:Int} (h:0≤n∧n≤999):itoaF n=some (dgT n):=by
 unfold dgT itoaF
 rw [decide_eq_true h.1,decide_eq_true (show n<1000 by omega)]
 rfl
theorem dgT_len (n:Int):(dgT n).length≤3:=by
 unfold dgT itoaF
 cases decide (0≤n) && decide (n<1000) with
 | false=>exact Nat.zero_le _
 | true=>
   cases decide (n<10) with
   | true=>exact (show 1≤3 by decide)
   | false=>
     cases decide (n<100) with
     | true=>exact (show 2≤3 by decide)
     | false=>exact (show 3≤3 by decide)
def leafW (t:Trm):List UInt8:=if t.1=1 then dgT t.2.1 else if t.1=2 then t.2.2.1 else t.2.2.1++[64]++t.2.2.2
def brW (b:Bool) (s:List UInt8):List UInt8:=if b then [40]++s++[41] else s
def Et.prx:Et→List UInt8
 | .nul t=>leafW t
 | .un k x=>unW k++brW (decide (x.lv<6)) x.prx
 | .bi k x y=>brW (decide (x.lv<lfO (lvO k))) x.prx++opW k++brW (decide (y.lv<lvO k+1)) y.prx
theorem opW_len (k:Int):(opW k).length≤2:=by unfold opW;(repeat' split)<;>decide
theorem unW_len (k:Int):(unW k).length=1:=by unfold unW;split<;>rfl
theorem qa9 (b:Bool) (s:List UInt8):(brW b s).length≤s.length+2:=by cases b<;>simp [brW]
theorem leafW_len {t:Trm} (h:mayT t=true):(leafW t).length≤17:=by
 have h8:=mayLen h
 have h3:=dgT_len t.2.1
 unfold leafW
 (repeat' split)
 ·omega
 ·omega
 ·simp;omega
theorem Et.prx_len:∀ (t:Et),t.wf→t.prx.length≤20*t.flat.length
 | .nul t,h=>by have:=leafW_len h.1;simp only [Et.prx,Et.flat,List.length_cons,List.length_nil];omega
 | .un k x,h=>by
   have h1:=x.prx_len h.2
   have h2:=qa9 (decide (x.lv<6)) x.prx
   have h3:=unW_len k
   simp only [Et.prx,Et.flat,List.length_append,List.length_cons,List.length_nil]
   omega
 | .bi k x y,h=>by
   have h1:=x.prx_len h.2.1
   have h1':=y.prx_len h.2.2
   have h2:=qa9 (decide (x.lv<lfO (lvO k))) x.prx
   have h2':=qa9 (decide (y.lv<lvO k+1)) y.prx
   have h3:=opW_len k
   simp only [Et.prx,Et.flat,List.length_append,List.length_cons,List.length_nil]
   omega
theorem brk_prog (s:List UInt8) (n m:Int) (hs:s.length≤1000000):M52 s n m=some (brW (decide (n<m)) s):=by
 show T52 Ops.std s n m some=_
 unfold T52
 simp only [qal,qap,qaa]
 by_cases h:n<m
 ·rw [if_pos h,if_pos (by omega),if_pos (by simp;omega),decide_eq_true h];rfl
 ·rw [if_neg h,decide_eq_false h];rfl
theorem both_tab {k:Int} (h:6≤k∧k≤16) (a b:List UInt8) (la lb:Int):M53 k a la b lb=ob (M52 a la ((lfO (lvO k):Nat)-1)) fun y2=>cond (decide ((y2.length+(opW k).length)*1≤140737488355328)) (ob (M52 b lb (lvO k:Nat)) fun y3=>cond (decide (((y2++opW k).length+y3.length)*1≤140737488355328)) (some (y2++opW k++y3,((lvO k:Nat):Int)-1)) none) none:=by
 rcases qci h with rfl | rfl | rfl | rfl | rfl | rfl | rfl | rfl | rfl | rfl | rfl
 all_goals kernel_rfl
theorem both_prog {k:Int} (h:6≤k∧k≤16) (a b:List UInt8) (la lb:Int) (ha:a.length≤1000000) (hb:b.length≤1000000):M53 k a la b lb=some (brW (decide (la<(lfO (lvO k):Nat)-1)) a++opW k++brW (decide (lb<(lvO k:Nat))) b,((lvO k:Nat):Int)-1):=by
 have h1:=qa9 (decide (la<(lfO (lvO k):Nat)-1)) a
 have h2:=qa9 (decide (lb<(lvO k:Nat))) b
 have h3:=opW_len k
 rw [both_tab h,brk_prog a _ _ ha,ob_s,brk_prog b _ _ hb,ob_s,decide_eq_true (by omega),decide_eq_true (by simp only [List.length_append];omega)]
 rfl
theorem qc3 {t:Trm} (h:mayT t=true) (h1:t.1=1):0≤t.2.1∧t.2.1≤999:=by
 unfold mayT at h
 rw [if_pos h1] at h
 simp only [Bool.and_eq_true,decide_eq_true_eq] at h
 exact ⟨h.1.1.1,h.1.1.2⟩
abbrev Sdt:=List UInt8×Int
noncomputable abbrev prP (e:List Trm):=R20 M22 M50 M51 M52 M53 e
section
variable {e:List Trm}
theorem prP_nul (i m:Nat) (st:List Sdt) (t:Trm) (hi:i<e.length) (hx:e.getD i (Ty.dflt ty56)=t) (ht:nulT t) (hl:e.length≤30) (hs:st.length≤100):prP e (m+1) (.l0 (e.length:Nat) i st)=prP e m (.l0 (e.length:Nat) ((i+1:Nat):Int) (st++[(leafW t,6)])):=by
 have hop:=ht.op
 obtain ⟨hm,hk⟩:=ht
 have h8:=mayLen hm
 have hU:prP e (m+1) (.l0 (e.length:Nat) i st)=T20 Ops.std M22 M50 M51 M52 M53 e (prP e m) some (some (.l0 (e.length:Nat) i st)):=rfl
 rw [hU]
 unfold T20
 have hw:IntKind.wrap IntKind.i64 ((st.length:Int)-0)=((st.length:Nat):Int):=by rw [wrap64 (by omega) (by omega)];omega
 simp only [qal,qan,qao,qap,qaa,qah,hx,mt,List.length_cons,List.length_nil,qcv,ob_s,hop,hw,List.take_length,show IntKind.wrap IntKind.i64 ((i:Int)+1)=((i+1:Nat):Int) from qag (by omega)]
 rw [if_pos (by omega),if_pos (by omega)]
 have hin:(0:Int)≤((st.length:Nat):Int)∧((st.length:Nat):Int)<((st.length+1:Nat):Int):=by omega
 rcases hk with h1 | h2 | h3
 ·have hn:M51 t.2.1=some (dgT t.2.1):=itoa_is (qc3 hm h1)
  rw [if_pos h1,hn,ob_s,if_pos hin,if_pos (by omega)]
  unfold leafW
  rw [if_pos h1]
 ·rw [if_neg (by omega),if_pos h2,if_pos hin,if_pos (by omega)]
  unfold leafW
  rw [if_neg (by omega),if_pos h2]
 ·rw [if_neg (by omega),if_neg (by omega),if_pos h3,if_pos (by omega),if_pos (by simp;omega),if_pos hin,if_pos (by omega)]
  unfold leafW
  rw [if_neg (by omega),if_neg (by omega)]
theorem prP_un (i m:Nat) (st:List Sdt) (k:Int) (s:List UInt8) (n:Int) (hi:i<e.length) (hx:e.getD i (Ty.dflt ty56)=(k,0,[],[])) (hk:k=4∨k=5) (hl:e.length≤30) (hs:st.length≤100) (hs2:s.length≤1000):prP e (m+1) (.l0 (e.length:Nat) i (st++[(s,n)]))=prP e m (.l0 (e.length:Nat) ((i+1:Nat):Int) (st++[(unW k++brW (decide (n<5)) s,5)])):=by
 have hop:=opE_un hk
 have hb:=qa9 (decide (n<5)) s
 have hU:prP e (m+1) (.l0 (e.length:Nat) i (st++[(s,n)]))=T20 Ops.std M22 M50 M51 M52 M53 e (prP e m) some (some (.l0 (e.length:Nat) i (st++[(s,n)]))):=rfl
 rw [hU]
 unfold T20
 have hlen:(st++[(s,n)]).length=st.length+1:=by simp
 have hw:IntKind.wrap IntKind.i64 (((st++[(s,n)]).length:Int)-1)=((st.length:Nat):Int):=by rw [hlen,wrap64 (by omega) (by omega)];omega
 have hg:(st++[(s,n)]).getD st.length (Ty.dflt ty88)=(s,n):=qas st (s,n) [] _
 have htk:(st++[(s,n)]).take st.length=st:=List.take_left
 simp only [qal,qan,qao,qap,qaa,qah,hx,mt,List.length_cons,List.length_nil,qcv,ob_s,hop,hw,hg,htk,brk_prog s n 5 (by omega),show IntKind.wrap IntKind.i64 ((i:Int)+1)=((i+1:Nat):Int) from qag (by omega)]
 rw [if_pos (by omega),if_pos (by omega),if_neg (by omega),if_neg (by omega),if_neg (by omega)]
 have hin:(0:Int)≤((st.length:Nat):Int)∧((st.length:Nat):Int)<(((st++[(s,n)]).length:Nat):Int):=by omega
 have hin2:(0:Int)≤((st.length:Nat):Int)∧((st.length:Nat):Int)<(((st++[(s,n)]).length+1:Nat):Int):=by omega
 rcases hk with rfl | rfl
 ·rw [if_pos rfl,if_pos hin,if_pos (by omega),if_pos hin2,if_pos (by omega)]
  rfl
 ·rw [if_neg (by decide),if_pos rfl,if_pos hin,if_pos (by omega),if_pos hin2,if_pos (by omega)]
  rfl
theorem prP_bi (i m:Nat) (st:List Sdt) (k:Int) (a b:List UInt8) (la lb:Int) (hi:i<e.length) (hx:e.getD i (Ty.dflt ty56)=(k,0,[],[])) (hk:6≤k∧k≤16) (hl:e.length≤30) (hs:st.length≤100) (ha:a.length≤1000) (hb:b.length≤1000):prP e (m+1) (.l0 (e.length:Nat) i (st++[(a,la),(b,lb)]))=prP e m (.l0 (e.length:Nat) ((i+1:Nat):Int) (st++[(brW (decide (la<(lfO (lvO k):Nat)-1)) a++opW k++brW (decide (lb<(lvO k:Nat))) b,((lvO k:Nat):Int)-1)])):=by
 have hop:=opE_bi hk
 have hU:prP e (m+1) (.l0 (e.length:Nat) i (st++[(a,la),(b,lb)]))=T20 Ops.std M22 M50 M51 M52 M53 e (prP e m) some (some (.l0 (e.length:Nat) i (st++[(a,la),(b,lb)]))):=rfl
 rw [hU]
 unfold T20
 have hlen:(st++[(a,la),(b,lb)]).length=st.length+2:=by simp
 have hw:IntKind.wrap IntKind.i64 (((st++[(a,la),(b,lb)]).length:Int)-2)=((st.length:Nat):Int):=by rw [hlen,wrap64 (by omega) (by omega)];omega
 have hw1:IntKind.wrap IntKind.i64 (((st.length:Nat):Int)+1)=((st.length+1:Nat):Int):=qag (by omega)
 have hg:(st++[(a,la),(b,lb)]).getD st.length (Ty.dflt ty88)=(a,la):=qas st (a,la) [(b,lb)] _
 have hg1:(st++[(a,la),(b,lb)]).getD (st.length+1) (Ty.dflt ty88)=(b,lb):=by
  simp
 have htk:(st++[(a,la),(b,lb)]).take st.length=st:=List.take_left
 simp only [qal,qan,qao,qap,qaa,qah,hx,mt,List.length_cons,List.length_nil,qcv,ob_s,hop,hw,hw1,hg,hg1,htk,both_prog hk a b la lb (by omega) (by omega),show IntKind.wrap IntKind.i64 ((i:Int)+1)=((i+1:Nat):Int) from qag (by omega)]
 rw [if_pos (by omega),if_pos (by omega),if_neg (by omega),if_neg (by omega),if_neg (by omega),if_neg (by omega),if_neg (by omega),if_pos (by omega),if_pos (by omega),if_pos (by omega),if_pos (by omega)]
theorem qd3 (hl:e.length≤30):∀ (t:Et),t.wf→∀ (pre rest:List Trm) (st:List Sdt) (m:Nat),e=pre++(t.flat++rest)→st.length+t.flat.length≤40→
  prP e (m+t.flat.length) (.l0 (e.length:Nat) (pre.length:Nat) st)=prP e m (.l0 (e.length:Nat) ((pre.length+t.flat.length:Nat):Int) (st++[(t.prx,((t.lv:Nat):Int)-1)]))
 | .nul t,h,pre,rest,st,m,he,hs=>by
   have hx:e.getD pre.length (Ty.dflt ty56)=t:=by rw [he];exact qas pre t rest _
   exact prP_nul pre.length m st t (by rw [he];simp [Et.flat]) hx h hl (by omega)
 | .un k x,h,pre,rest,st,m,he,hs=>by
   have hf:(Et.un k x).flat.length=x.flat.length+1:=by simp [Et.flat]
   have he1:e=pre++(x.flat++((k,0,[],[])::rest)):=by rw [he];simp [Et.flat]
   have ih:=qd3 hl x h.2 pre _ st (m+1) he1 (by omega)
   have hel:e.length=pre.length+(x.flat.length+(rest.length+1)):=by rw [he1];simp
   have hx:e.getD (pre.length+x.flat.length) (Ty.dflt ty56)=(k,0,[],[]):=by
    rw [he1,←List.append_assoc,←List.length_append];exact qas _ _ rest _
   have hlen:=x.prx_len h.2
   rw [hf,show m+(x.flat.length+1)=m+1+x.flat.length by omega,ih,prP_un _ m st k x.prx _ (by omega) hx h.1 hl (by omega) (by omega)]
   have hd:decide (((x.lv:Nat):Int)-1<5)=decide (x.lv<6):=by congr 1;exact propext ⟨fun h=>by omega,fun h=>by omega⟩
   rw [hd]
   rfl
 | .bi k x y,h,pre,rest,st,m,he,hs=>by
   have hf:(Et.bi k x y).flat.length=x.flat.length+y.flat.length+1:=by simp [Et.flat];omega
   have he1:e=pre++(x.flat++(y.flat++((k,0,[],[])::rest))):=by rw [he];simp [Et.flat]
   have hel:e.length=pre.length+(x.flat.length+(y.flat.length+(rest.length+1))):=by rw [he1];simp
   have ih:=qd3 hl x h.2.1 pre _ st (m+1+y.flat.length) he1 (by omega)
   have ih2:=qd3 hl y h.2.2 (pre++x.flat) ((k,0,[],[])::rest) (st++[(x.prx,((x.lv:Nat):Int)-1)]) (m+1) (by rw [he1];simp) (by simp;omega)
   rw [List.length_append] at ih2
   have hx:e.getD (pre.length+x.flat.length+y.flat.length) (Ty.dflt ty56)=(k,0,[],[]):=by
    rw [he1,←List.append_assoc,←List.append_assoc,←List.length_append,←List.length_append];exact qas _ _ rest _
   have hlen:=x.prx_len h.2.1
   have hlen2:=y.prx_len h.2.2
   have hst:st++[(x.prx,((x.lv:Nat):Int)-1)]++[(y.prx,((y.lv:Nat):Int)-1)]=st++[(x.prx,((x.lv:Nat):Int)-1),(y.prx,((y.lv:Nat):Int)-1)]:=by simp
   rw [hf,show m+(x.flat.length+y.flat.length+1)=m+1+y.flat.length+x.flat.length by omega,ih,ih2,hst,prP_bi _ m st k x.prx y.prx _ _ (by omega) hx h.1 hl (by omega) (by omega) (by omega)]
   have hd:decide (((x.lv:Nat):Int)-1<(lfO (lvO k):Nat)-1)=decide (x.lv<lfO (lvO k)):=by congr 1;exact propext ⟨fun h=>by omega,fun h=>by omega⟩
   have hd2:decide (((y.lv:Nat):Int)-1<(lvO k:Nat))=decide (y.lv<lvO k+1):=by congr 1;exact propext ⟨fun h=>by omega,fun h=>by omega⟩
   rw [hd,hd2,show pre.length+x.flat.length+y.flat.length+1=pre.length+(x.flat.length+y.flat.length+1) by omega]
   rfl
end
theorem print_prog {t:Et} (h:t.wf) (hl:t.flat.length≤30):M20 t.flat=some t.prx:=by
 show T20 Ops.std M22 M50 M51 M52 M53 t.flat (prP t.flat 1000000) some none=_
 unfold T20
 rw [qel t.flat (by omega),ob_s,tree_rightE h hl]
 simp only [Bool.not_true,cond_false]
 have:=qd3 (e:=t.flat) hl t h [] [] [] (1000000-t.flat.length) (by simp) (by simp;omega)
 rw [show 1000000-t.flat.length+t.flat.length=1000000 by omega] at this
 refine Eq.trans this ?_
 obtain ⟨m,hm⟩:∃ m,1000000-t.flat.length=m+1:=⟨1000000-t.flat.length-1,by omega⟩
 rw [hm]
 have hU:∀ (i:Int) (st:List Sdt),prP t.flat (m+1) (.l0 (t.flat.length:Nat) i st)=T20 Ops.std M22 M50 M51 M52 M53 t.flat (prP t.flat m) some (some (.l0 (t.flat.length:Nat) i st)):=fun _ _=>rfl
 rw [hU]
 unfold T20
 simp only [qal,qan,qaa]
 rw [if_neg (by simp),if_pos (by simp)]
 rfl
def hdOK (s:List UInt8):Prop:=∃ (d:UInt8) (q:List UInt8),s=d::q∧d≠61∧d≠62
theorem hdOK.app {s:List UInt8} (h:hdOK s) (r:List UInt8):hdOK (s++r):=by
 obtain ⟨d,q,rfl,h⟩:=h
 exact ⟨d,q++r,rfl,h⟩
theorem lx_digits {w:List UInt8} (r:List UInt8) (hw:w≠[]) (hd:w.all digitP'=true) (hl:w.length≤3) (hr:noWord r):LexTo w r [(1,w,valW w)]:=by
 cases w with
 | nil=>exact absurd rfl hw
 | cons b w=>
   have hb:digitP' b=true:=by simp only [List.all_cons,Bool.and_eq_true] at hd;exact hd.1
   have hk:blankP b=false:=by
    have:=qbr hb
    unfold blankP
    rw [decide_eq_false (by omega),decide_eq_false (by omega),decide_eq_false (by omega)];rfl
   refine LexTo.tok ?_ hk
   have ht:(b::(w++r)).takeWhile digitP'=b::w:=by
    have:=tw_app (p:=digitP') (b::w) r hd (fun c q e=>by
     have:=hr c q e
     simp only [wordP,Bool.or_eq_false_iff] at this
     exact this.2)
    exact this
   simp only [tokS,hb,ht,if_true]
   rw [if_pos hl]
theorem lx_wrd {w:List UInt8} (r:List UInt8) (hw:isWordP w=true) (hr:noWord r):LexTo w r [(2,w,0)]:=by
 cases w with
 | nil=>cases hw
 | cons b w=>
   have h8:=wordLen hw
   simp only [List.length_cons] at h8
   simp only [isWordP,Bool.and_eq_true,decide_eq_true_eq] at hw
   obtain ⟨⟨h1,h2⟩,h3⟩:=hw
   have hn:digitP' b=false:=by
    unfold lowerP at h1
    unfold digitP'
    simp only [Bool.or_eq_true,Bool.and_eq_true,decide_eq_true_eq] at h1
    rw [Bool.and_eq_false_iff]
    simp only [decide_eq_false_iff_not]
    omega
   have hk:blankP b=false:=by
    unfold lowerP at h1
    simp only [Bool.or_eq_true,Bool.and_eq_true,decide_eq_true_eq] at h1
    unfold blankP
    rw [decide_eq_false (by omega),decide_eq_false (by omega),decide_eq_false (by omega)];rfl
   exact lx_word r h1 hn hk h2 (by omega) hr
theorem qdo {c:UInt8} {r:List UInt8} (h:c=42∨c=43):signS (c::r)=[c]:=by
 have h2:twos.find? (fun p=>decide (1<(c::r).length) && ((c::r).take 2 == p))=none:=by
  rw [List.find?_eq_none]
  intro p hp
  simp only [twos,List.mem_cons,List.not_mem_nil,or_false] at hp
  rcases h with h | h<;>subst h<;>rcases hp with hp | hp | hp | hp | hp | hp | hp<;>subst hp<;>simp
 unfold signS
 rw [h2]
 rcases h with h | h<;>subst h<;>simp [ones]
theorem signS_min {d:UInt8} {r:List UInt8} (hd:d≠62):signS (45::d::r)=[45]:=by
 have h2:twos.find? (fun p=>decide (1<(45::d::r).length) && ((45::d::r).take 2 == p))=none:=by
  rw [List.find?_eq_none]
  intro p hp
  simp only [twos,List.mem_cons,List.not_mem_nil,or_false] at hp
  rcases hp with hp | hp | hp | hp | hp | hp | hp<;>subst hp<;>simp [hd]
 unfold signS
 rw [h2]
 simp [ones]
theorem lx_min {d:UInt8} (r:List UInt8) (hd:d≠62):LexTo [45] (d::r) [(4,[45],0)]:=LexTo.tok (s:=[]) (qaz rfl rfl rfl (signS_min hd) (by simp)) rfl
theorem lx_free {c:UInt8} (r:List UInt8) (h:c=42∨c=43):LexTo [c] r [(4,[c],0)]:=by
 have hs:=qdo (r:=r) h
 rcases h with h | h<;>subst h<;>exact LexTo.tok (s:=[]) (qaz rfl rfl rfl hs (by simp)) rfl
theorem lx_op {k:Int} (hk:6≤k∧k≤16) {s:List UInt8} (hs:hdOK s):LexTo (opW k) s [(4,opW k,0)]:=by
 obtain ⟨d,q,rfl,h1,h2⟩:=hs
 rcases qci hk with rfl | rfl | rfl | rfl | rfl | rfl | rfl | rfl | rfl | rfl | rfl
 ·exact lx_free _ (.inl rfl)
 ·exact lx_free _ (.inr rfl)
 ·exact lx_min _ h2
 ·exact qdn _ (.inr (.inl rfl)) h1
 ·exact qb5 (p:=[60,61]) _ (by simp)
 ·exact qdn _ (.inr (.inr rfl)) h1
 ·exact qb5 (p:=[62,61]) _ (by simp)
 ·exact qb5 (p:=[61,61]) _ (by simp)
 ·exact qb5 (p:=[33,61]) _ (by simp)
 ·exact qb5 (p:=[38,38]) _ (by simp)
 ·exact qb5 (p:=[124,124]) _ (by simp)
theorem lx_un {k:Int} (hk:k=4∨k=5) {s:List UInt8} (hs:hdOK s):LexTo (unW k) s [(4,unW k,0)]:=by
 obtain ⟨d,q,rfl,h1,h2⟩:=hs
 rcases hk with rfl | rfl
 ·exact qdn _ (.inl rfl) h1
 ·exact lx_min _ h2
theorem noWord.op {k:Int} (hk:6≤k∧k≤16) (r:List UInt8):noWord (opW k++r):=by
 rcases qci hk with rfl | rfl | rfl | rfl | rfl | rfl | rfl | rfl | rfl | rfl | rfl<;>exact noWord.cons rfl
def Et.dx:Et→De
 | .nul t=>.nul t (leafW t)
 | .un k x=>.un k (if x.lv<6 then .bra x.dx else x.dx)
 | .bi k x y=>.bi k (if x.lv<lfO (lvO k) then .bra x.dx else x.dx) (if y.lv<lvO k+1 then .bra y.dx else y.dx)
theorem dx_lv (t:Et):t.dx.lv=t.lv:=by cases t<;>rfl
theorem dx_ok:∀ t:Et,t.wf→t.dx.ok
 | .nul t,h=>h
 | .un k x,h=>by
   have ih:=dx_ok x h.2
   have hl:=dx_lv x
   refine ⟨h.1,?_,?_⟩
   ·split
    ·show 6≤7;omega
    ·omega
   ·split<;>exact ih
 | .bi k x y,h=>by
   have ih:=dx_ok x h.2.1
   have ih2:=dx_ok y h.2.2
   have hl:=dx_lv x
   have hl2:=dx_lv y
   have h5:=lvO_le k
   have hlf:lfO (lvO k)≤7:=by unfold lfO;split<;>omega
   refine ⟨h.1,?_,?_,?_,?_⟩
   ·split
    ·show _≤7;omega
    ·omega
   ·split
    ·show _≤7;omega
    ·omega
   ·split<;>exact ih
   ·split<;>exact ih2
theorem qep:∀ t:Et,t.dx.tree=t
 | .nul t=>rfl
 | .un k x=>by
   have:(if x.lv<6 then De.bra x.dx else x.dx).tree=x.dx.tree:=by split<;>rfl
   simp only [Et.dx,De.tree,this,qep x]
 | .bi k x y=>by
   have h1:(if x.lv<lfO (lvO k) then De.bra x.dx else x.dx).tree=x.dx.tree:=by split<;>rfl
   have h2:(if y.lv<lvO k+1 then De.bra y.dx else y.dx).tree=y.dx.tree:=by split<;>rfl
   simp only [Et.dx,De.tree,h1,h2,qep x,qep y]
theorem dgT_ok:(List.range 1000).all (fun n=>decide (valW (dgT (n:Int))=(n:Int)) && ((dgT (n:Int)).all digitP' && !(dgT (n:Int)).isEmpty))=true:=by kernel_rfl
theorem dgT_is {n:Int} (h:0≤n∧n≤999):valW (dgT n)=n∧(dgT n).all digitP'=true∧dgT n≠[]:=by
 obtain ⟨k,rfl⟩:∃ k:Nat,n=(k:Int):=⟨n.toNat,by omega⟩
 have:=List.all_eq_true.1 dgT_ok k (List.mem_range.2 (by omega))
 simp only [Bool.and_eq_true,decide_eq_true_eq,Bool.not_eq_true'] at this
 exact ⟨this.1,this.2.1,fun e=>by rw [e] at this;simp at this⟩
theorem low_hd {b:UInt8} (h:lowerP b=true):b≠61∧b≠62:=by
 unfold lowerP at h
 simp only [Bool.or_eq_true,Bool.and_eq_true,decide_eq_true_eq] at h
 constructor<;>(intro e;subst e;revert h;decide)
theorem word_hd {w:List UInt8} (h:isWordP w=true):hdOK w:=by
 cases w with
 | nil=>cases h
 | cons b w=>
   simp only [isWordP,Bool.and_eq_true] at h
   exact ⟨b,w,rfl,low_hd h.1.1⟩
theorem digits_hd {w:List UInt8} (h:w.all digitP'=true) (h0:w≠[]):hdOK w:=by
 cases w with
 | nil=>exact absurd rfl h0
 | cons b w=>
   simp only [List.all_cons,Bool.and_eq_true] at h
   have:=qbr h.1
   exact ⟨b,w,rfl,fun e=>by subst e;exact absurd this (by decide),fun e=>by subst e;exact absurd this (by decide)⟩
theorem nulT_2 {t:Trm} (h:nulT t) (h2:t.1=2):isWordP t.2.2.1=true:=by
 obtain ⟨hm,_⟩:=h
 unfold mayT at hm
 rw [if_neg (by omega),if_pos h2] at hm
 simp only [Bool.and_eq_true] at hm
 exact hm.1.2
theorem qeq {t:Trm} (h:nulT t) (h3:t.1=3):isWordP t.2.2.1=true∧isWordP t.2.2.2=true:=by
 obtain ⟨hm,_⟩:=h
 unfold mayT at hm
 rw [if_neg (by omega),if_neg (by omega),if_pos h3] at hm
 simp only [Bool.and_eq_true] at hm
 exact ⟨hm.1.2,hm.2⟩
theorem leaf_hd {t:Trm} (h:nulT t):hdOK (leafW t):=by
 unfold leafW
 split
 ·rename_i h1
  obtain ⟨d1,d2,d3⟩:=dgT_is (qc3 h.1 h1)
  exact digits_hd d2 d3
 ·split
  ·rename_i h2
   exact word_hd (nulT_2 h h2)
  ·have h3:t.1=3:=by have:=h.2;omega
   exact ((word_hd (qeq h h3).1).app _).app _
theorem leaf_lex {t:Trm} (h:nulT t) (r:List UInt8) (hr:noWord r):LexTo (leafW t) r (nulK t (leafW t)):=by
 by_cases h1:t.1=1
 ·obtain ⟨d1,d2,d3⟩:=dgT_is (qc3 h.1 h1)
  have e:leafW t=dgT t.2.1:=if_pos h1
  have e2:nulK t (leafW t)=[(1,leafW t,t.2.1)]:=if_pos h1
  rw [e2,e]
  have:=lx_digits r d3 d2 (dgT_len _) hr
  rw [d1] at this
  exact this
 ·by_cases h2:t.1=2
  ·have e:leafW t=t.2.2.1:=by unfold leafW;rw [if_neg h1,if_pos h2]
   have e2:nulK t (leafW t)=[(2,t.2.2.1,0)]:=by unfold nulK;rw [if_neg h1,if_pos h2]
   rw [e2,e]
   exact lx_wrd r (nulT_2 h h2) hr
  ·have h3:t.1=3:=by have:=h.2;omega
   have e:leafW t=t.2.2.1++([64]++t.2.2.2):=by unfold leafW;rw [if_neg h1,if_neg h2,List.append_assoc]
   have e2:nulK t (leafW t)=[(2,t.2.2.1,0)]++([(4,[64],0)]++[(2,t.2.2.2,0)]):=by unfold nulK;rw [if_neg h1,if_neg h2];rfl
   rw [e2,e]
   exact (lx_wrd _ (qeq h h3).1 (noWord.cons rfl)).app ((qb6 _ (by simp)).app (lx_wrd r (qeq h h3).2 hr))
theorem brW_hd {b:Bool} {s:List UInt8} (h:hdOK s):hdOK (brW b s):=by
 cases b with
 | true=>exact ⟨40,s++[41],rfl,by decide,by decide⟩
 | false=>exact h
theorem prx_hd:∀ t:Et,t.wf→hdOK t.prx
 | .nul t,h=>leaf_hd h
 | .un k x,h=>by
   rcases h.1 with rfl | rfl<;>exact ⟨_,_,rfl,by decide,by decide⟩
 | .bi k x y,h=>((brW_hd (prx_hd x h.2.1)).app _).app _
theorem bra_lex {d:De} {s:List UInt8} {b:Prop} [Decidable b] (h:∀ r,noWord r→LexTo s r d.toks) (r:List UInt8) (hr:noWord r):LexTo (brW (decide b) s) r (if b then De.bra d else d).toks:=by
 by_cases hb:b
 ·rw [decide_eq_true hb,if_pos hb]
  have e:brW true s=[40]++(s++[41]):=by simp [brW]
  rw [e]
  exact (qb6 (c:=40) _ (by simp)).app ((h _ (noWord.cons rfl)).app (qb6 (c:=41) r (by simp)))
 ·rw [decide_eq_false hb,if_neg hb]
  exact h r hr
theorem prx_lex:∀ t:Et,t.wf→∀ r,noWord r→LexTo t.prx r t.dx.toks
 | .nul t,h,r,hr=>leaf_lex h r hr
 | .un k x,h,r,hr=>(lx_un h.1 ((brW_hd (prx_hd x h.2)).app r)).app (bra_lex (prx_lex x h.2) r hr)
 | .bi k x y,h,r,hr=>by
   have e:(Et.bi k x y).prx=brW (decide (x.lv<lfO (lvO k))) x.prx++(opW k++brW (decide (y.lv<lvO k+1)) y.prx):=by simp [Et.prx]
   have e2:(Et.bi k x y).dx.toks=(if x.lv<lfO (lvO k) then De.bra x.dx else x.dx).toks++([(4,opW k,0)]++(if y.lv<lvO k+1 then De.bra y.dx else y.dx).toks):=rfl
   rw [e,e2]
   refine (bra_lex (prx_lex x h.2.1) _ ?_).app ((lx_op h.1 ((brW_hd (prx_hd y h.2.2)).app r)).app (bra_lex (prx_lex y h.2.2) r hr))
   rw [List.append_assoc]
   exact noWord.op h.1 _
theorem preT_of:∀ (tks pre suf:List Tok),PreT (tks.map strip) (pre++(tks++suf)) pre.length
 | [],pre,suf=>trivial
 | t::tks,pre,suf=>by
   refine ⟨⟨by simp,?_⟩,?_⟩
   ·show strip (tkD (pre++t::(tks++suf)) pre.length)=strip t
    unfold tkD
    rw [qas]
   ·have:=preT_of tks (pre++[t]) suf
    rw [List.append_assoc,List.length_append] at this
    exact this
theorem lex_all {s:List UInt8} {ts:List TokS} (h:LexTo s [] ts) (hl:s.length≤60000):∃ (tks:List Tok) (x:Int),lexS s=(0,0,tks++[(5,[],0,x)])∧tks.map strip=ts:=by
 obtain ⟨f',tks,h1,h2,h3⟩:=h (s.length+1) 0 [] (by simp)
 rw [List.append_nil] at h3
 obtain ⟨g,rfl⟩:∃ g,f'=g+1:=⟨f'-1,by simp at h2;omega⟩
 refine ⟨tks,((0+s.length:Nat):Int),?_,h1⟩
 unfold Av.lexS
 rw [if_neg (by omega),h3]
 rfl
theorem De.lv_pos (d:De):1≤d.lv:=by
 cases d with
 | bi k x y=>exact (lvO_le k).1
 | nul _ _=>show 1≤7;omega
 | un _ _=>show 1≤6;omega
 | bra _=>show 1≤7;omega
theorem De.parse2 {d:De} (hd:d.ok) {s:List UInt8} {tks:List Tok} {x:Int} (h1:lexS s=(0,0,tks++[(5,[],0,x)])) (h2:tks.map strip=d.toks):ParseIs s (if 30<d.tree.flat.length then (13,0,[]) else (0,0,d.tree.flat))∨∃ a:Int,ParseIs s (13,a,[])∧30<d.tree.flat.length:=by
 have hp:=preT_of tks [] [(5,[],0,x)]
 rw [h2] at hp
 have hn:tks.length=d.toks.length:=by rw [←h2];simp
 have hend:tkD (tks++[(5,[],0,x)]) (0+d.toks.length)=(5,[],0,x):=by
  rw [Nat.zero_add,←hn]
  exact qas tks _ [] _
 have hk:(tkD (tks++[(5,[],0,x)]) (0+d.toks.length)).1=5:=by rw [hend]
 have hs0:(sgE (tks++[(5,[],0,x)]) (0+d.toks.length)).2=0:=by
  unfold sgE
  rw [if_neg (by rw [hk];decide)]
 have hr:=(De.read (l:=tks++[(5,[],0,x)]) (fun _ _=>trivial) d hd 0 hp (qcx (by rw [hk];decide))).2.1 1 (Nat.le_refl 1) (by omega) d.lv_pos (by omega)
 by_cases h30:30<d.tree.flat.length
 ·refine .inr ⟨(tkD (tks++[(5,[],0,x)]) 0).2.2.2,.inr ⟨0,_,_,h1,hr,?_⟩,h30⟩
  have:takeR 0 (.ok (0+d.toks.length) d.tree.flat)=(0,13,[]):=if_pos h30
  rw [this]
  rfl
 ·rw [if_neg h30]
  refine .inl (.inr ⟨0,_,_,h1,hr,?_⟩)
  have:takeR 0 (.ok (0+d.toks.length) d.tree.flat)=(((0+d.toks.length:Nat):Int),0,d.tree.flat):=if_neg h30
  rw [this]
  unfold parseR
  dsimp only
  rw [if_pos rfl,qah,if_pos hk]
theorem De.parse {d:De} (hd:d.ok) {s:List UInt8} (h:LexTo s [] d.toks) (hl:s.length≤60000):ParseIs s (if 30<d.tree.flat.length then (13,0,[]) else (0,0,d.tree.flat))∨∃ a:Int,ParseIs s (13,a,[])∧30<d.tree.flat.length:=by
 obtain ⟨tks,x,h1,h2⟩:=lex_all h hl
 exact De.parse2 hd h1 h2
theorem prx_ascii:∀ t:Et,t.wf→∀ b∈t.prx,b.toNat<128:=by
 have wd:∀ {w:List UInt8},isWordP w=true→∀ b∈w,b.toNat<128:=fun {w} h b hb=>by
  have hw:wordP b=true:=by
   cases w with
   | nil=>cases hb
   | cons c w=>
     simp only [isWordP,Bool.and_eq_true] at h
     rcases List.mem_cons.1 hb with rfl | hb
     ·exact qbq h.1.1
     ·exact List.all_eq_true.1 h.1.2 b hb
  unfold wordP lowerP digitP' at hw
  simp only [Bool.or_eq_true,Bool.and_eq_true,decide_eq_true_eq] at hw
  omega
 have br:∀ {c:Bool} {s:List UInt8},(∀ b∈s,b.toNat<128)→∀ b∈brW c s,b.toNat<128:=fun {c s} h b hb=>by
  cases c with
  | true=>
    simp only [brW,if_true,List.mem_append,List.mem_singleton] at hb
    rcases hb with (rfl | hb) | rfl
    ·decide
    ·exact h b hb
    ·decide
  | false=>exact h b hb
 intro t
 induction t with
 | nul t=>
   intro h b hb
   have hb:b∈leafW t:=hb
   unfold leafW at hb
   split at hb
   ·rename_i h1
    have:=qbr (List.all_eq_true.1 (dgT_is (qc3 h.1 h1)).2.1 b hb)
    omega
   ·split at hb
    ·rename_i h2
     exact wd (nulT_2 h h2) b hb
    ·have h3:t.1=3:=by have:=h.2;omega
     simp only [List.mem_append,List.mem_singleton] at hb
     rcases hb with (hb | rfl) | hb
     ·exact wd (qeq h h3).1 b hb
     ·decide
     ·exact wd (qeq h h3).2 b hb
 | un k x ih=>
   intro h b hb
   simp only [Et.prx,List.mem_append] at hb
   rcases hb with hb | hb
   ·rcases h.1 with rfl | rfl
    ·have:b=33:=by simpa [unW] using hb
     subst this;decide
    ·have:b=45:=by simpa [unW] using hb
     subst this;decide
   ·exact br (ih h.2) b hb
 | bi k x y ihx ihy=>
   intro h b hb
   simp only [Et.prx,List.mem_append] at hb
   rcases hb with (hb | hb) | hb
   ·exact br (ihx h.2.1) b hb
   ·have:∀ c∈opW k,c.toNat<128:=by
     rcases qci h.1 with rfl | rfl | rfl | rfl | rfl | rfl | rfl | rfl | rfl | rfl | rfl<;>decide
    exact this b hb
   ·exact br (ihy h.2.2) b hb
inductive Df where
 | con (b:Bool)
 | atm (d:De)
 | un (k:Int) (x:Df)
 | bi (k:Int) (x y:Df)
 | bra (x:Df)
def conK (b:Bool):Int:=if b then 1 else 2
def Df.tree:Df→Fm Trm
 | .con b=>.nul (conK b,[])
 | .atm d=>.nul (3,d.tree.flat)
 | .un k x=>.un (k,[]) x.tree
 | .bi k x y=>.bi (k,[]) x.tree y.tree
 | .bra x=>x.tree
def Df.lv:Df→Nat
 | .un _ _=>5
 | .bi k _ _=>lvK k
 | _=>6
def lfK (n:Nat):Nat:=if n=1∨n=4 then n+1 else n
def rtK (n:Nat):Nat:=if n=1∨n=4 then n else n+1
def Df.ok:Df→Prop
 | .con _=>True
 | .atm d=>d.ok∧d.tree.flat.length≤30
 | .un k x=>unaK k∧5≤x.lv∧x.ok
 | .bi k x y=>binK k∧lfK (lvK k)≤x.lv∧rtK (lvK k)≤y.lv∧x.ok∧y.ok
 | .bra x=>x.ok
def Df.toks:Df→List TokS
 | .con b=>[(2,conW b,0)]
 | .atm d=>(4,[91],0)::(d.toks++[(4,[93],0)])
 | .un k x=>unaT k::x.toks
 | .bi k x y=>x.toks++(binT k::y.toks)
 | .bra x=>(4,[40],0)::(x.toks++[(4,[41],0)])
theorem lvK_le {k:Int}:1≤lvK k∧lvK k≤4:=by unfold lvK;(repeat' split)<;>omega
theorem Df.lv_le:∀ d:Df,1≤d.lv∧d.lv≤6
 | .con _=>⟨by show 1≤6;omega,Nat.le_refl 6⟩
 | .atm _=>⟨by show 1≤6;omega,Nat.le_refl 6⟩
 | .un _ _=>⟨by show 1≤5;omega,by show 5≤6;omega⟩
 | .bi k _ _=>⟨lvK_le.1,by have:=lvK_le (k:=k);show lvK k≤6;omega⟩
 | .bra _=>⟨by show 1≤6;omega,Nat.le_refl 6⟩
theorem qer {l:List Tok} {a:Nat} {k n:Int} {w:List UInt8} (h:strip (tkD l a)=(k,w,n)) (hk:k≠1):txF l a=w:=by
 unfold txF
 rw [if_pos (by rw [tkS_1 h];exact hk),tkS_2 h]
theorem bin_sg {k:Int} (hk:binK k):(∀ m,sgF m (binT k).2.1=if m=lvK k then k else 0)∧(binT k).1≠1:=by
 have aux:∀ (w:List UInt8) (n:Nat) (k:Int),(sgF 1 w=if 1=n then k else 0)→(sgF 2 w=if 2=n then k else 0)→(sgF 3 w=if 3=n then k else 0)→(sgF 4 w=if 4=n then k else 0)→(sgF 5 w=if 5=n then k else 0)→(1≤n∧n≤5)→∀ m,sgF m w=if m=n then k else 0:=fun w n k h1 h2 h3 h4 h5 hn m=>by
  by_cases m1:m=1
  ·rw [m1];exact h1
  by_cases m2:m=2
  ·rw [m2];exact h2
  by_cases m3:m=3
  ·rw [m3];exact h3
  by_cases m4:m=4
  ·rw [m4];exact h4
  by_cases m5:m=5
  ·rw [m5];exact h5
  unfold sgF
  rw [if_neg m1,if_neg m2,if_neg m3,if_neg m4,if_neg m5,if_neg (by omega)]
 rcases hk with rfl | rfl | rfl | rfl | rfl
 ·exact ⟨aux _ 3 5 rfl rfl rfl rfl rfl (by omega),by decide⟩
 ·exact ⟨aux _ 2 6 rfl rfl rfl rfl rfl (by omega),by decide⟩
 ·exact ⟨aux _ 1 7 rfl rfl rfl rfl rfl (by omega),by decide⟩
 ·exact ⟨aux _ 4 9 rfl rfl rfl rfl rfl (by omega),by decide⟩
 ·exact ⟨aux _ 4 10 rfl rfl rfl rfl rfl (by omega),by decide⟩
theorem una_sg {k:Int} (hk:unaK k):sgF 5 (unaT k).2.1=k∧k≠0∧(unaT k).1≠1:=by
 rcases hk with rfl | rfl | rfl | rfl<;>exact ⟨rfl,by decide,by decide⟩
section
variable {l:List Tok}
def noS (l:List Tok) (b n:Nat):Prop:=∀ m,n≤m→m≤4→sgF m (txF l b)=0
theorem noS.le {b n m:Nat} (h:noS l b n) (hm:n≤m):noS l b m:=fun k h1 h2=>h k (by omega) h2
theorem lowF {a b:Nat} {e:List Prt}:∀ (k n:Nat),n+k≤5→1≤n→noS l b n→PF l (.lv (n+k) a) (.ok b e)→PF l (.lv n a) (.ok b e)
 | 0,n,_,_,_,h=>h
 | k+1,n,h5,h1,hs,h=>by
   have h':PF l (.lv (n+1) a) (.ok b e):=lowF k (n+1) (by omega) (by omega) (hs.le (by omega)) (by rw [show n+1+k=n+(k+1) by omega];exact h)
   have h0:=hs n (Nat.le_refl n) (by omega)
   by_cases h14:n=1∨n=4
   ·exact pf_r0 h14 h' h0
   ·exact pf_l (by omega) h' (pf_stop h0)
theorem lowT {a b m n:Nat} {e:List Prt} (h:PF l (.lv m a) (.ok b e)) (hm:m≤5) (h1:1≤n) (hn:n≤m) (hs:noS l b n):PF l (.lv n a) (.ok b e):=
 lowF (m-n) n (by omega) h1 hs (by rw [show n+(m-n)=m by omega];exact h)
theorem Df.read:∀ (d:Df),d.ok→∀ a,PreT d.toks l a→
  (6≤d.lv→PF l (.lv 6 a) (.ok (a+d.toks.length) d.tree.flat))∧
  (∀ n,1≤n→n≤5→n≤d.lv→noS l (a+d.toks.length) n→PF l (.lv n a) (.ok (a+d.toks.length) d.tree.flat))∧
  (∀ n r,(n=2∨n=3)→n≤d.lv→noS l (a+d.toks.length) (n+1)→PF l (.lp n (a+d.toks.length) d.tree.flat) r→PF l (.lv n a) r):=by
 have own:∀ {a b m:Nat} {e:List Prt},1≤m→m≤5→(noS l b m→PF l (.lv m a) (.ok b e))→(∀ n,1≤n→n≤m→noS l b n→PF l (.lv n a) (.ok b e))∧(∀ n r,(n=2∨n=3)→n<m→noS l b (n+1)→PF l (.lp n b e) r→PF l (.lv n a) r):=fun {a b m e} h1 h5 h=>
  ⟨fun n n1 n2 hs=>lowT (h (hs.le n2)) h5 n1 n2 hs,fun n r hn hlt hs hr=>pf_l hn (lowT (h (hs.le (by omega))) h5 (by omega) (by omega) hs) hr⟩
 have six:∀ {a b:Nat} {e:List Prt},sgF 5 (txF l a)=0→PF l (.lv 6 a) (.ok b e)→(∀ n,1≤n→n≤5→n≤6→noS l b n→PF l (.lv n a) (.ok b e))∧(∀ n r,(n=2∨n=3)→n≤6→noS l b (n+1)→PF l (.lp n b e) r→PF l (.lv n a) r):=fun {a b e} h0 h=>by
  obtain ⟨i1,i2⟩:=own (m:=5) (by omega) (by omega) (fun _=>pf_p0 h0 h)
  exact ⟨fun n n1 n2 _ hs=>i1 n n1 n2 hs,fun n r hn _ hs hr=>i2 n r hn (by omega) hs hr⟩
 intro d
 induction d with
 | con b=>
   intro h a hp
   have ht:txF l a=conW b:=qer hp.1.2 (by decide)
   have h6:PF l (.lv 6 a) (.ok (a+1) [(conK b,[])]):=by
    cases b with
    | true=>exact pf_true ht
    | false=>exact pf_false ht
   obtain ⟨i1,i2⟩:=six (by rw [ht];cases b<;>rfl) h6
   exact ⟨fun _=>h6,i1,i2⟩
 | atm d=>
   intro h a hp
   obtain ⟨⟨_,p1⟩,p2⟩:=hp
   obtain ⟨p3,⟨_,p4⟩,_⟩:=PreT.app _ _ _ _ p2
   have ht:txF l a=[91]:=qer p1 (by decide)
   have ht2:txF l (a+1+d.toks.length)=[93]:=qer p4 (by decide)
   have hs0:sgE l (a+1+d.toks.length)=(0,0):=by
    unfold sgE
    rw [if_pos (tkS_1 p4),tkS_2 p4]
    rfl
   have hpe:=(De.read (l:=l) (fun _ _=>trivial) d h.1 (a+1) p3 (qcw (qdw p4) (by decide))).2.1 1 (Nat.le_refl 1) (by omega) d.lv_pos (by rw [hs0];show 0<1;omega)
   have h6:=pf_ex ht hpe
   have e:exF l a (.ok (a+1+d.toks.length) d.tree.flat)=.ok (a+1+d.toks.length+1) [(3,d.tree.flat)]:=by
    unfold exF
    dsimp only
    rw [if_neg (by have:=h.2;omega),if_pos ht2]
   rw [e] at h6
   have hlen:a+(Df.atm d).toks.length=a+1+d.toks.length+1:=by simp only [Df.toks,List.length_cons,List.length_append,List.length_nil];omega
   rw [hlen]
   obtain ⟨i1,i2⟩:=six (by rw [ht];rfl) h6
   exact ⟨fun _=>h6,i1,i2⟩
 | un k x ih=>
   intro h a hp
   obtain ⟨hk,hlv,hx⟩:=h
   obtain ⟨⟨_,p1⟩,p2⟩:=hp
   obtain ⟨u1,u2,u3⟩:=una_sg hk
   have ht:txF l a=(unaT k).2.1:=qer (k:=(unaT k).1) (n:=(unaT k).2.2) p1 u3
   have hlen:a+(Df.un k x).toks.length=a+1+x.toks.length:=by simp only [Df.toks,List.length_cons];omega
   rw [hlen]
   have hs:sgF 5 (txF l a)=k:=by rw [ht];exact u1
   have h5:noS l (a+1+x.toks.length) 5→PF l (.lv 5 a) (.ok (a+1+x.toks.length) (Df.un k x).tree.flat):=fun hn=>by
    have:=pf_p1 (by rw [hs];exact u2) ((ih hx (a+1) p2).2.1 5 (by omega) (by omega) hlv hn)
    rw [hs] at this
    exact this
   obtain ⟨i1,i2⟩:=own (m:=5) (by omega) (by omega) h5
   refine ⟨fun h=>absurd h (by show ¬ 6≤5;omega),fun n n1 n2 _ hs=>i1 n n1 n2 hs,fun n r hn _ hs hr=>i2 n r hn (by omega) hs hr⟩
 | bra x ih=>
   intro h a hp
   obtain ⟨⟨_,p1⟩,p2⟩:=hp
   obtain ⟨p3,⟨_,p4⟩,_⟩:=PreT.app _ _ _ _ p2
   have ht:txF l a=[40]:=qer p1 (by decide)
   have ht2:txF l (a+1+x.toks.length)=[41]:=qer p4 (by decide)
   have hn:noS l (a+1+x.toks.length) 1:=fun m h1 h2=>by
    rw [ht2]
    match m,h1,h2 with
    | 1,_,_ | 2,_,_ | 3,_,_ | 4,_,_=>rfl
   have h6:=pf_bra ht ((ih h (a+1) p3).2.1 1 (by omega) (by omega) x.lv_le.1 hn)
   rw [if_pos ht2] at h6
   have hlen:a+(Df.bra x).toks.length=a+1+x.toks.length+1:=by simp only [Df.toks,List.length_cons,List.length_append,List.length_nil];omega
   rw [hlen]
   obtain ⟨i1,i2⟩:=six (by rw [ht];rfl) h6
   exact ⟨fun _=>h6,i1,i2⟩
 | bi k x y ihx ihy=>
   intro h a hp
   obtain ⟨hk,hlx,hly,hx,hy⟩:=h
   obtain ⟨p1,⟨_,p2⟩,p3⟩:=PreT.app _ _ _ _ hp
   obtain ⟨b1,b2⟩:=bin_sg hk
   have hlv:=lvK_le (k:=k)
   have ht:txF l (a+x.toks.length)=(binT k).2.1:=qer (k:=(binT k).1) (n:=(binT k).2.2) p2 b2
   have hlen:a+(Df.bi k x y).toks.length=a+x.toks.length+1+y.toks.length:=by simp only [Df.toks,List.length_cons,List.length_append];omega
   have hk0:k≠0:=by rcases hk with rfl | rfl | rfl | rfl | rfl<;>decide
   rw [hlen]
   obtain ⟨_,x1,x2⟩:=ihx hx a p1
   obtain ⟨_,y1,y2⟩:=ihy hy (a+x.toks.length+1) p3
   have hsg:sgF (lvK k) (txF l (a+x.toks.length))=k:=by rw [ht,b1,if_pos rfl]
   have hno:∀ m,lvK k<m→noS l (a+x.toks.length) m:=fun m hm j h1 h2=>by rw [ht,b1,if_neg (by omega)]
   have hflat:(Df.bi k x y).tree.flat=x.tree.flat++y.tree.flat++[(sgF (lvK k) (txF l (a+x.toks.length)),[])]:=by rw [hsg];rfl
   by_cases h14:lvK k=1∨lvK k=4
   ·have e1:lfK (lvK k)=lvK k+1:=if_pos h14
    have e2:rtK (lvK k)=lvK k:=if_pos h14
    have hown:noS l (a+x.toks.length+1+y.toks.length) (lvK k)→PF l (.lv (lvK k) a) (.ok (a+x.toks.length+1+y.toks.length) (Df.bi k x y).tree.flat):=fun hn=>by
     rw [hflat]
     exact pf_r1 h14 (x1 (lvK k+1) (by omega) (by omega) (by omega) (hno _ (by omega))) (by rw [hsg];exact hk0) (y1 (lvK k) (by omega) (by omega) (by omega) hn)
    obtain ⟨i1,i2⟩:=own hlv.1 (by omega) hown
    refine ⟨fun h=>?_,fun n n1 n2 n3 hs=>i1 n n1 n3 hs,fun n r hn hle hs hr=>?_⟩
    ·have h:6≤lvK k:=h
     omega
    ·have hle:n≤lvK k:=hle
     exact i2 n r hn (by omega) hs hr
   ·have e1:lfK (lvK k)=lvK k:=if_neg h14
    have e2:rtK (lvK k)=lvK k+1:=if_neg h14
    have h23:lvK k=2∨lvK k=3:=by omega
    have hmore:∀ r,noS l (a+x.toks.length+1+y.toks.length) (lvK k+1)→PF l (.lp (lvK k) (a+x.toks.length+1+y.toks.length) (Df.bi k x y).tree.flat) r→PF l (.lv (lvK k) a) r:=fun r hn hr=>by
     rw [hflat] at hr
     exact x2 (lvK k) r h23 (by omega) (hno _ (by omega)) (pf_more (by rw [hsg];exact hk0) (y1 (lvK k+1) (by omega) (by omega) (by omega) hn) hr)
    have hown:noS l (a+x.toks.length+1+y.toks.length) (lvK k)→PF l (.lv (lvK k) a) (.ok (a+x.toks.length+1+y.toks.length) (Df.bi k x y).tree.flat):=fun hn=>
     hmore _ (hn.le (by omega)) (pf_stop (hn _ (Nat.le_refl _) hlv.2))
    obtain ⟨i1,i2⟩:=own hlv.1 (by omega) hown
    refine ⟨fun h=>?_,fun n n1 n2 n3 hs=>i1 n n1 n3 hs,fun n r hn hle hs hr=>?_⟩
    ·have h:6≤lvK k:=h
     omega
    ·have hle:n≤lvK k:=hle
     by_cases hn2:n=lvK k
     ·subst hn2
      exact hmore r hs hr
     ·exact i2 n r hn (by omega) hs hr
end
theorem Df.parse2 {d:Df} (hd:d.ok) (h24:d.tree.size≤24) {s:List UInt8} {tks:List Tok} {x:Int} (h1:lexS s=(0,0,tks++[(5,[],0,x)])) (h2:tks.map strip=d.toks):FParseIs s (0,0,d.tree.flat):=by
 have hp:=preT_of tks [] [(5,[],0,x)]
 rw [h2] at hp
 have hn:tks.length=d.toks.length:=by rw [←h2];simp
 have hend:tkD (tks++[(5,[],0,x)]) (0+d.toks.length)=(5,[],0,x):=by
  rw [Nat.zero_add,←hn]
  exact qas tks _ [] _
 have hk:(tkD (tks++[(5,[],0,x)]) (0+d.toks.length)).1=5:=by rw [hend]
 have hno:noS (tks++[(5,[],0,x)]) (0+d.toks.length) 1:=fun m _ _=>by
  have:txF (tks++[(5,[],0,x)]) (0+d.toks.length)=[]:=by
   unfold txF
   rw [hend]
   rfl
  rw [this]
  exact sgF_nil m
 have hr:=(Df.read (l:=tks++[(5,[],0,x)]) d hd 0 hp).2.1 1 (Nat.le_refl 1) (by omega) d.lv_le.1 hno
 refine .inr ⟨0,_,_,h1,hr,?_⟩
 unfold parseF
 dsimp only
 rw [if_pos hk,if_neg (by rw [d.tree.flat_len];omega)]
theorem Df.parse {d:Df} (hd:d.ok) (h24:d.tree.size≤24) {s:List UInt8} (h:LexTo s [] d.toks) (hl:s.length≤60000):FParseIs s (0,0,d.tree.flat):=by
 obtain ⟨tks,x,h1,h2⟩:=lex_all h hl
 exact Df.parse2 hd h24 h1 h2
def freeB (c:UInt8):Bool:=c == 40 || (c == 41 || (c == 42 || (c == 43 || (c == 64 || (c == 91 || (c == 93 || c == 32))))))
def Bl:List UInt8→List UInt8→Prop
 | [],t=>t=[]
 | c::s,t=>∃ b1 b2 t',t=b1++(c::(b2++t'))∧b1.all blankP=true∧b2.all blankP=true∧(freeB c=false→b1=[]∧b2=[])∧Bl s t'
theorem Bl.snoc:∀ {s t:List UInt8} {c:UInt8} {b1 b2:List UInt8},Bl s t→b1.all blankP=true→b2.all blankP=true→(freeB c=false→b1=[]∧b2=[])→Bl (s++[c]) (t++(b1++[c]++b2))
 | [],t,c,b1,b2,h,h1,h2,h3=>by
  have h:t=[]:=h
  subst h
  exact ⟨b1,b2,[],by simp,h1,h2,h3,rfl⟩
 | d::s,t,c,b1,b2,h,h1,h2,h3=>by
   obtain ⟨e1,e2,t',rfl,g1,g2,g3,g4⟩:=h
   exact ⟨e1,e2,t'++(b1++[c]++b2),by simp,g1,g2,g3,Bl.snoc g4 h1 h2 h3⟩
theorem qcj {c:UInt8} (h:freeB c=true):c=40∨c=41∨c=42∨c=43∨c=64∨c=91∨c=93∨c=32:=by
 unfold freeB at h
 simpa using h
theorem free_tok {c:UInt8} (h:freeB c=true) (hb:blankP c=false) (r:List UInt8):tokS (c::r)=some (4,[c],0):=by
 rcases qcj h with h | h | h | h | h | h | h | h
 ·subst h;exact qaz rfl rfl rfl (qbt (by simp)) (by simp)
 ·subst h;exact qaz rfl rfl rfl (qbt (by simp)) (by simp)
 ·subst h;exact qaz rfl rfl rfl (qdo (by simp)) (by simp)
 ·subst h;exact qaz rfl rfl rfl (qdo (by simp)) (by simp)
 ·subst h;exact qaz rfl rfl rfl (qbt (by simp)) (by simp)
 ·subst h;exact qaz rfl rfl rfl (qbt (by simp)) (by simp)
 ·subst h;exact qaz rfl rfl rfl (qbt (by simp)) (by simp)
 ·subst h;cases hb
theorem tw_bl {p:UInt8→Bool} (hp:∀ c,p c=true→freeB c=false∧blankP c=false):∀ {s t:List UInt8},Bl s t→s.takeWhile p=t.takeWhile p∧Bl (s.drop (s.takeWhile p).length) (t.drop (s.takeWhile p).length)
 | [],t,h=>by
  have h:t=[]:=h
  subst h
  exact ⟨rfl,rfl⟩
 | c::s,t,h=>by
   have h0:=h
   obtain ⟨b1,b2,t',rfl,g1,g2,g3,g4⟩:=h
   cases hc:p c with
   | true=>
     obtain ⟨rfl,rfl⟩:=g3 (hp c hc).1
     obtain ⟨i1,i2⟩:=tw_bl hp g4
     rw [List.nil_append,List.nil_append,List.takeWhile_cons_of_pos hc,List.takeWhile_cons_of_pos hc,i1]
     refine ⟨rfl,?_⟩
     rw [List.length_cons,List.drop_succ_cons,List.drop_succ_cons,←i1]
     exact i2
   | false=>
     have e1:(c::s).takeWhile p=[]:=List.takeWhile_cons_of_neg (by rw [hc];decide)
     rw [e1]
     refine ⟨?_,h0⟩
     cases b1 with
     | nil=>rw [List.nil_append,List.takeWhile_cons_of_neg (by rw [hc];decide)]
     | cons b b1=>
       simp only [List.all_cons,Bool.and_eq_true] at g1
       have hpb:p b=false:=by
        cases hb:p b with
        | false=>rfl
        | true=>have:=(hp b hb).2;rw [this] at g1;cases g1.1
       rw [List.cons_append,List.takeWhile_cons_of_neg (by rw [hpb];decide)]
theorem digit_nf:∀ c,digitP' c=true→freeB c=false∧blankP c=false:=fun c h=>by
 have:=qbr h
 constructor
 ·cases hf:freeB c with
  | false=>rfl
  | true=>rcases qcj hf with rfl | rfl | rfl | rfl | rfl | rfl | rfl | rfl<;>exact absurd this (by decide)
 ·unfold blankP
  rw [decide_eq_false (by omega),decide_eq_false (by omega),decide_eq_false (by omega)];rfl
theorem word_nf:∀ c,wordP c=true→freeB c=false∧blankP c=false:=fun c h=>by
 constructor
 ·cases hf:freeB c with
  | false=>rfl
  | true=>rcases qcj hf with rfl | rfl | rfl | rfl | rfl | rfl | rfl | rfl<;>exact absurd h (by decide)
 ·unfold wordP lowerP digitP' at h
  simp only [Bool.or_eq_true,Bool.and_eq_true,decide_eq_true_eq] at h
  unfold blankP
  rw [decide_eq_false (by omega),decide_eq_false (by omega),decide_eq_false (by omega)];rfl
theorem qes {c e:UInt8} {r:List UInt8} (h:e≠61∧e≠38∧e≠124∧e≠62):signS (c::e::r)=signS [c]:=by
 have h2:twos.find? (fun p=>decide (1<(c::e::r).length) && ((c::e::r).take 2 == p))=none:=by
  rw [List.find?_eq_none]
  intro p hp
  simp only [twos,List.mem_cons,List.not_mem_nil,or_false] at hp
  rcases hp with hp | hp | hp | hp | hp | hp | hp<;>subst hp<;>simp [h]
 have h3:twos.find? (fun p=>decide (1 < [c].length) && ([c].take 2 == p))=none:=by
  rw [List.find?_eq_none]
  intro p hp
  simp
 unfold signS
 rw [h2,h3]
 rfl
theorem free_sec {d:UInt8} (h:freeB d=true):d≠61∧d≠38∧d≠124∧d≠62:=by
 rcases qcj h with rfl | rfl | rfl | rfl | rfl | rfl | rfl | rfl<;>decide
theorem blank_sec {d:UInt8} (h:blankP d=true):d≠61∧d≠38∧d≠124∧d≠62:=by
 refine ⟨?_,?_,?_,?_⟩<;>(intro e;subst e;exact absurd h (by decide))
theorem sign_bl {c:UInt8} {s t:List UInt8} (h:Bl s t):signS (c::s)=signS (c::t)∧(2≤(signS (c::s)).length→∃ d s2 t2,s=d::s2∧t=d::t2∧Bl s2 t2):=by
 have one:(signS [c]).length≤1:=(qek [c]).2.1
 cases s with
 | nil=>
   have h:t=[]:=h
   subst h
   exact ⟨rfl,fun h2=>by omega⟩
 | cons d s2=>
   obtain ⟨b1,b2,t',rfl,g1,g2,g3,g4⟩:=h
   cases hf:freeB d with
   | true=>
     have e1:signS (c::d::s2)=signS [c]:=qes (free_sec hf)
     rw [e1]
     refine ⟨?_,fun h2=>by omega⟩
     cases b1 with
     | nil=>exact (qes (free_sec hf)).symm
     | cons b b1=>
       simp only [List.all_cons,Bool.and_eq_true] at g1
       exact (qes (blank_sec g1.1)).symm
   | false=>
     obtain ⟨rfl,rfl⟩:=g3 hf
     refine ⟨?_,fun _=>⟨d,s2,t',rfl,rfl,g4⟩⟩
     show signS (c::d::s2)=signS (c::d::t')
     have e2:∀ r:List UInt8,signS (c::d::r)=match twos.find? (fun p=>[c,d] == p) with
       | some p=>p
       | none=>match ones.find? (fun b=>[c] == [b]) with
         | some b=>[c]
         | none=>[]:=fun r=>by
      unfold signS
      have:(fun p=>decide (1<(c::d::r).length) && ((c::d::r).take 2 == p))=fun p=>[c,d] == p:=by
       funext p
       have:decide (1<(c::d::r).length)=true:=by simp
       rw [this]
       rfl
      rw [this]
      rfl
     rw [e2,e2]
theorem tok_bl {c:UInt8} {s t:List UInt8} (h:Bl s t) (hc:freeB c=false) {k n:Int} {w:List UInt8} (ht:tokS (c::s)=some (k,w,n)):tokS (c::t)=some (k,w,n)∧Bl ((c::s).drop w.length) ((c::t).drop w.length):=by
 have hbl:Bl (c::s) (c::t):=⟨[],[],t,by simp,rfl,rfl,fun _=>⟨rfl,rfl⟩,h⟩
 simp only [tokS] at ht ⊢
 by_cases hd:digitP' c=true
 ·rw [if_pos hd] at ht ⊢
  obtain ⟨e1,e2⟩:=tw_bl digit_nf hbl
  rw [←e1]
  refine ⟨ht,?_⟩
  split at ht
  ·cases ht;exact e2
  ·cases ht
 ·rw [if_neg hd] at ht ⊢
  by_cases hl:lowerP c=true
  ·rw [if_pos hl] at ht ⊢
   obtain ⟨e1,e2⟩:=tw_bl word_nf hbl
   rw [←e1]
   refine ⟨ht,?_⟩
   split at ht
   ·cases ht;exact e2
   ·cases ht
  ·rw [if_neg hl] at ht ⊢
   by_cases hlt:letterP c=true
   ·rw [if_pos hlt] at ht ⊢
    refine ⟨ht,?_⟩
    cases ht
    exact h
   ·rw [if_neg hlt] at ht ⊢
    obtain ⟨e1,e2⟩:=sign_bl (c:=c) h
    rw [←e1]
    refine ⟨ht,?_⟩
    split at ht
    ·cases ht
    ·rename_i hne
     cases ht
     have hl2:=(qek (c::s)).1
     have h0:(signS (c::s)).length≠0:=fun h=>hne (List.eq_nil_of_length_eq_zero h)
     by_cases h2:2≤(signS (c::s)).length
     ·obtain ⟨d,s2,t2,rfl,rfl,g⟩:=e2 h2
      have:(signS (c::d::s2)).length=2:=by omega
      rw [this]
      exact g
     ·have:(signS (c::s)).length=1:=by omega
      rw [this]
      exact h
theorem qck:∀ (b r:List UInt8) (f a:Nat) (out:List Tok),b.all blankP=true→(b++r).length<f→∃ (f' a':Nat),lexGo f (b++r) a out=lexGo f' r a' out∧r.length<f'
 | [],r,f,a,out,_,hf=>⟨f,a,rfl,hf⟩
 | c::b,r,f,a,out,hb,hf=>by
   simp only [List.all_cons,Bool.and_eq_true] at hb
   obtain ⟨g,rfl⟩:∃ g,f=g+1:=⟨f-1,by omega⟩
   obtain ⟨f',a',h1,h2⟩:=qck b r g (a+1) out hb.2 (by simp at hf ⊢;omega)
   refine ⟨f',a',?_,h2⟩
   rw [←h1]
   simp only [List.cons_append,lexGo,hb.1,if_true]
theorem qd4:∀ (f:Nat) (s t:List UInt8) (a a':Nat) (out out':List Tok) (f':Nat) (e x:Int) (l:List Tok),Bl s t→t.length<f'→out'.map strip=out.map strip→lexGo f s a out=(e,x,l)→e=0→∃ l',lexGo f' t a' out'=(0,0,l')∧l'.map strip=l.map strip
 | 0,s,t,a,a',out,out',f',e,x,l,hb,hf,ho,h,he=>by
   simp only [lexGo,Prod.mk.injEq] at h
   omega
 | f+1,[],t,a,a',out,out',f',e,x,l,hb,hf,ho,h,he=>by
   have hb:t=[]:=hb
   subst hb
   obtain ⟨g,rfl⟩:∃ g,f'=g+1:=⟨f'-1,by omega⟩
   simp only [lexGo,Prod.mk.injEq] at h
   obtain ⟨_,_,rfl⟩:=h
   exact ⟨_,rfl,by rw [List.map_append,List.map_append,ho];rfl⟩
 | f+1,c::s,t,a,a',out,out',f',e,x,l,hb,hf,ho,h,he=>by
   obtain ⟨b1,b2,t',rfl,g1,g2,g3,g4⟩:=hb
   obtain ⟨f1,a1,k1,k2⟩:=qck b1 (c::(b2++t')) f' a' out' g1 hf
   rw [k1]
   obtain ⟨f2,rfl⟩:∃ g,f1=g+1:=⟨f1-1,by omega⟩
   simp only [List.length_cons] at k2
   simp only [lexGo] at h ⊢
   cases hbl:blankP c with
   | true=>
     rw [hbl,if_pos rfl] at h
     rw [if_pos rfl]
     obtain ⟨f3,a3,k3,k4⟩:=qck b2 t' f2 (a1+1) out' g2 (by omega)
     rw [k3]
     exact qd4 f s t' (a+1) a3 out out' f3 e x l g4 k4 ho h he
   | false=>
     rw [hbl,if_neg (by decide)] at h
     rw [if_neg (by decide)]
     cases hfr:freeB c with
     | true=>
       rw [free_tok hfr hbl] at h ⊢
       simp only [List.length_cons,List.length_nil,List.drop_succ_cons,List.drop_zero] at h ⊢
       obtain ⟨f3,a3,k3,k4⟩:=qck b2 t' f2 (a1+1) (out'++[(4,[c],0,(a1:Int))]) g2 (by omega)
       rw [k3]
       exact qd4 f s t' (a+1) a3 (out++[(4,[c],0,(a:Int))]) _ f3 e x l g4 k4 (by rw [List.map_append,List.map_append,ho];rfl) h he
     | false=>
       obtain ⟨rfl,rfl⟩:=g3 hfr
       rw [List.nil_append] at k2 ⊢
       cases ht:tokS (c::s) with
       | none=>
         rw [ht] at h
         simp only [Prod.mk.injEq] at h
         omega
       | some y=>
         obtain ⟨k,w,n⟩:=y
         rw [ht] at h
         obtain ⟨q1,q2⟩:=tok_bl g4 hfr ht
         have q3:=tok_len ht
         rw [q1]
         simp only at h ⊢
         refine qd4 f _ _ (a+w.length) (a1+w.length) (out++[(k,w,n,(a:Int))]) _ f2 e x l q2 ?_ (by rw [List.map_append,List.map_append,ho];rfl) h he
         rw [List.length_drop,List.length_cons]
         omega
theorem lexS_bl {s t:List UInt8} (h:Bl s t) {x:Int} {l:List Tok} (hs:lexS s=(0,x,l)) (ht:t.length≤60000):∃ l',lexS t=(0,0,l')∧l'.map strip=l.map strip:=by
 unfold lexS at hs ⊢
 rw [if_neg (by omega)]
 split at hs
 ·cases hs
 ·exact qd4 _ s t 0 0 [] [] (t.length+1) 0 x l h (by omega) rfl hs rfl
noncomputable def exW (e:List Trm):List UInt8:=(M20 e).getD []
theorem exW_is {e:List Trm} (h:rightE e=true):∃ t:Et,t.wf∧e=t.flat∧t.flat.length≤30∧exW e=t.prx∧M20 e=some (exW e):=by
 obtain ⟨t,t1,rfl,t3⟩:=rightE_tree h
 have:=print_prog t1 t3
 have e1:exW t.flat=t.prx:=by unfold exW;rw [this];rfl
 exact ⟨t,t1,rfl,t3,e1,by rw [this,e1]⟩
def Fm.lvF:Fm Trm→Nat
 | .nul _=>6
 | .un _ _=>5
 | .bi p _ _=>lvK p.1
noncomputable def nulW (p:Prt):List UInt8:=if p.1=1 then [116,114,117,101] else if p.1=2 then [102,97,108,115,101] else [91]++exW p.2++[93]
noncomputable def Fm.prf:Fm Trm→List UInt8
 | .nul p=>nulW p
 | .un p x=>unaW p.1++brW (decide (x.lvF<5)) x.prf
 | .bi p x y=>brW (decide (x.lvF<lfK (lvK p.1))) x.prf++binW p.1++brW (decide (y.lvF<rtK (lvK p.1))) y.prf
theorem unaW_len (k:Int):(unaW k).length≤2:=by unfold unaW;(repeat' split)<;>decide
theorem binW_len (k:Int):(binW k).length≤4:=by unfold binW;(repeat' split)<;>decide
theorem opn_un {k:Int} (h:opn k=1):unaK k:=by
 unfold opn at h
 unfold unaK
 (repeat' split at h)<;>omega
theorem opn_bi {k:Int} (h:opn k=2):binK k:=by
 unfold opn at h
 unfold binK
 (repeat' split at h)<;>omega
theorem qet {k:Int} (h:opn k=0):k=1∨k=2∨k=3:=by
 unfold opn at h
 (repeat' split at h)<;>omega
theorem nulW_len {p:Prt} (h:opn p.1=0) (h3:p.1=3→rightE p.2=true):(nulW p).length≤700:=by
 unfold nulW
 rcases qet h with h1 | h1 | h1
 ·rw [if_pos h1];decide
 ·rw [if_neg (by omega),if_pos h1];decide
 ·rw [if_neg (by omega),if_neg (by omega)]
  obtain ⟨t,t1,t2,t3,t4,_⟩:=exW_is (h3 h1)
  have:=t.prx_len t1
  rw [t4]
  simp;omega
theorem Fm.prf_len:∀ t:Fm Trm,t.wf rightE→t.prf.length≤700*t.size
 | .nul p,h=>by
   have:=nulW_len h.1 h.2.1
   simp only [Fm.prf,Fm.size];omega
 | .un p x,h=>by
   have:=Fm.prf_len x h.2.2
   have h1:=unaW_len p.1
   have h2:=qa9 (decide (x.lvF<5)) x.prf
   simp only [Fm.prf,Fm.size,List.length_append];omega
 | .bi p x y,h=>by
   have:=Fm.prf_len x h.2.2.1
   have:=Fm.prf_len y h.2.2.2
   have h1:=binW_len p.1
   have h2:=qa9 (decide (x.lvF<lfK (lvK p.1))) x.prf
   have h3:=qa9 (decide (y.lvF<rtK (lvK p.1))) y.prf
   simp only [Fm.prf,Fm.size,List.length_append];omega
theorem qeu (s:List UInt8) (n m:Int) (hs:s.length≤1000000):M118 s n m=some (brW (decide (n<m)) s):=by
 show T118 Ops.std s n m some=_
 unfold T118
 simp only [qal,qap,qaa,List.length_append,List.length_cons,List.length_nil]
 by_cases h:n<m
 ·rw [if_pos h,if_pos (by omega),if_pos (by omega),decide_eq_true h];rfl
 ·rw [if_neg h,decide_eq_false h];rfl
theorem preW_prog {k:Int} (h:unaK k):M117 k=some (unaW k):=by rcases h with rfl | rfl | rfl | rfl<;>rfl
theorem infix_prog {k:Int} (h:binK k):M119 k=some (binW k,((lvK k:Nat):Int)-1,decide (lvK k=1∨lvK k=4)):=by rcases h with rfl | rfl | rfl | rfl | rfl<;>rfl
abbrev Sfd:=List UInt8×Int
theorem told_nul {p:Prt} (h:opn p.1=0) (h3:p.1=3→rightE p.2=true):M84 p.1 p.2 []=some (nulW p,5):=by
 show T84 Ops.std M20 M117 M118 M119 p.1 p.2 [] some=_
 unfold T84 nulW
 simp only [qao,qap,qaa]
 rcases qet h with h1 | h1 | h1
 ·rw [if_pos h1,if_pos h1]
 ·rw [if_neg (by omega),if_pos h1,if_neg (by omega),if_pos h1]
 ·obtain ⟨t,t1,t2,t3,t4,t5⟩:=exW_is (h3 h1)
  have:=t.prx_len t1
  rw [←t4] at this
  rw [if_neg (by omega),if_neg (by omega),if_pos h1,if_neg (by omega),if_neg (by omega),t5,ob_s,if_pos (by omega),if_pos (by simp;omega)]
theorem told_un {k:Int} (h:unaK k) (e:List Trm) (s:List UInt8) (n:Int) (hs:s.length≤100000):M84 k e [(s,n)]=some (unaW k++brW (decide (n<4)) s,4):=by
 show T84 Ops.std M20 M117 M118 M119 k e [(s,n)] some=_
 unfold T84
 have hk:¬ k=1∧¬ k=2∧¬ k=3:=by rcases h with rfl | rfl | rfl | rfl<;>decide
 have h1:=unaW_len k
 have h2:=qa9 (decide (n<4)) s
 have hb:=qeu s n 4 (by omega)
 simp only [qao,qap,qan,qaa,preW_prog h,ob_s]
 rw [if_neg hk.1,if_neg hk.2.1,if_neg hk.2.2,if_pos (by simp),if_pos (by simp)]
 show ob (M118 s n 4) _=_
 rw [hb,ob_s,if_pos (by omega)]
theorem told_bi {k:Int} (h:binK k) (e:List Trm) (a b:List UInt8) (la lb:Int) (ha:a.length≤100000) (hb:b.length≤100000):M84 k e [(a,la),(b,lb)]=some (brW (decide (la<(lfK (lvK k):Nat)-1)) a++binW k++brW (decide (lb<(rtK (lvK k):Nat)-1)) b,((lvK k:Nat):Int)-1):=by
 show T84 Ops.std M20 M117 M118 M119 k e [(a,la),(b,lb)] some=_
 unfold T84
 have hk:¬ k=1∧¬ k=2∧¬ k=3:=by rcases h with rfl | rfl | rfl | rfl | rfl<;>decide
 have h1:=binW_len k
 have hlv:=lvK_le (k:=k)
 have h2:=qa9 (decide (la<(lfK (lvK k):Nat)-1)) a
 have h3:=qa9 (decide (lb<(rtK (lvK k):Nat)-1)) b
 have hw:IntKind.wrap IntKind.i64 (((lvK k:Nat):Int)-1+1)=((lvK k:Nat):Int):=by rw [wrap64 (by omega) (by omega)];omega
 have b1:∀ m,M118 a la m=some (brW (decide (la<m)) a):=fun m=>qeu a la m (by omega)
 have b2:∀ m,M118 b lb m=some (brW (decide (lb<m)) b):=fun m=>qeu b lb m (by omega)
 simp only [qao,qap,qan,qaa,infix_prog h,ob_s,hw]
 rw [if_neg hk.1,if_neg hk.2.1,if_neg hk.2.2,if_neg (by simp)]
 by_cases hr:lvK k=1∨lvK k=4
 ·have e1:((lfK (lvK k):Nat):Int)-1=((lvK k:Nat):Int):=by unfold lfK;rw [if_pos hr];omega
  have e2:((rtK (lvK k):Nat):Int)-1=((lvK k:Nat):Int)-1:=by unfold rtK;rw [if_pos hr]
  rw [e1] at h2 ⊢
  rw [e2] at h3 ⊢
  rw [if_pos hr,if_pos (by simp),if_pos (by simp)]
  show ob (M118 a la _) _=_
  rw [b1,ob_s,if_pos (by omega)]
  show ob (M118 b lb _) _=_
  rw [b2,ob_s,if_pos (by simp only [List.length_append];omega)]
 ·have e1:((lfK (lvK k):Nat):Int)-1=((lvK k:Nat):Int)-1:=by unfold lfK;rw [if_neg hr]
  have e2:((rtK (lvK k):Nat):Int)-1=((lvK k:Nat):Int):=by unfold rtK;rw [if_neg hr];omega
  rw [e1] at h2 ⊢
  rw [e2] at h3 ⊢
  rw [if_neg hr,if_pos (by simp),if_pos (by simp)]
  show ob (M118 a la _) _=_
  rw [b1,ob_s,if_pos (by omega)]
  show ob (M118 b lb _) _=_
  rw [b2,ob_s,if_pos (by simp only [List.length_append];omega)]
theorem clone_said (xs:List Sfd) (h:xs.length<900000):M85 xs=some xs:=by
 unfold M85 cloneF fits
 rw [qaa,if_pos (by omega)]
noncomputable abbrev pfR (f:List Prt):=R42 M48 M82 M85 M84 f
section
variable {f:List Prt} (hl:f.length≤60)
include hl
theorem pf_step (i m:Nat) (st kids:List Sfd) (p:Prt) (w:List UInt8) (n:Int) (hi:i<f.length) (hx:f.getD i (Ty.dflt ty78)=p) (hop:opn p.1=((kids.length:Nat):Int)) (hk:kids.length≤2) (hs:st.length≤100) (ht:M84 p.1 p.2 kids=some (w,n)):pfR f (m+1) (.l0 (f.length:Nat) i (st++kids))=pfR f m (.l0 (f.length:Nat) ((i+1:Nat):Int) (st++[(w,n)])):=by
 have hU:pfR f (m+1) (.l0 (f.length:Nat) i (st++kids))=T42 Ops.std M48 M82 M85 M84 f (pfR f m) some (some (.l0 (f.length:Nat) i (st++kids))):=rfl
 rw [hU]
 unfold T42
 have hlen:(st++kids).length=st.length+kids.length:=by simp
 have hw:IntKind.wrap IntKind.i64 (((st++kids).length:Int)-((kids.length:Nat):Int))=((st.length:Nat):Int):=by rw [hlen,wrap64 (by omega) (by omega)];omega
 have htk:(st++kids).take st.length=st:=List.take_left
 have hdr:(st++kids).drop st.length=kids:=List.drop_left
 simp only [qal,qan,qao,qap,qaa,qah,hx,mt,List.length_cons,List.length_nil,opn_prog,ob_s,hop,hw,htk,List.take_length,hdr,clone_said kids (by omega),ht,show IntKind.wrap IntKind.i64 ((i:Int)+1)=((i+1:Nat):Int) from qag (by omega)]
 rw [if_pos (by omega),if_pos (by omega),if_pos (by omega),if_pos (by omega),if_pos (by omega)]
theorem pf_tree:∀ (t:Fm Trm),t.wf rightE→t.size≤60→∀ (pre rest:List Prt) (st:List Sfd) (m:Nat),f=pre++(t.flat++rest)→st.length+t.size≤70→
  pfR f (m+t.size) (.l0 (f.length:Nat) (pre.length:Nat) st)=pfR f m (.l0 (f.length:Nat) ((pre.length+t.size:Nat):Int) (st++[(t.prf,((t.lvF:Nat):Int)-1)]))
 | .nul p,h,h60,pre,rest,st,m,he,hs=>by
   have hx:f.getD pre.length (Ty.dflt ty78)=p:=by rw [he];exact qas pre p rest _
   have:=pf_step hl pre.length m st [] p _ _ (by rw [he];simp [Fm.flat]) hx h.1 (by simp) (by omega) (told_nul h.1 h.2.1)
   rw [List.append_nil] at this
   exact this
 | .un p x,h,h60,pre,rest,st,m,he,hs=>by
   have hf:(Fm.un p x).size=x.size+1:=rfl
   have hxl:=x.flat_len
   have he1:f=pre++(x.flat++(p::rest)):=by rw [he];simp [Fm.flat]
   have ih:=pf_tree x h.2.2 (by omega) pre _ st (m+1) he1 (by omega)
   have hel:f.length=pre.length+(x.size+(rest.length+1)):=by rw [he1];simp [hxl]
   have hx:f.getD (pre.length+x.size) (Ty.dflt ty78)=p:=by
    rw [he1,←List.append_assoc,←hxl,←List.length_append];exact qas _ _ rest _
   have hlen:=x.prf_len h.2.2
   have hu:=opn_un h.1
   have ht:=told_un hu p.2 x.prf (((x.lvF:Nat):Int)-1) (by omega)
   have hst:=pf_step hl (pre.length+x.size) m st [(x.prf,((x.lvF:Nat):Int)-1)] p _ _ (by omega) hx (by rw [h.1];rfl) (by simp) (by omega) ht
   rw [hf,show m+(x.size+1)=m+1+x.size by omega,ih,hst]
   have hd:decide (((x.lvF:Nat):Int)-1<4)=decide (x.lvF<5):=by congr 1;exact propext ⟨fun h=>by omega,fun h=>by omega⟩
   rw [hd]
   rfl
 | .bi p x y,h,h60,pre,rest,st,m,he,hs=>by
   have hf:(Fm.bi p x y).size=x.size+y.size+1:=rfl
   have hxl:=x.flat_len
   have hyl:=y.flat_len
   have he1:f=pre++(x.flat++(y.flat++(p::rest))):=by rw [he];simp [Fm.flat]
   have hel:f.length=pre.length+(x.size+(y.size+(rest.length+1))):=by rw [he1];simp [hxl,hyl]
   have ih:=pf_tree x h.2.2.1 (by omega) pre _ st (m+1+y.size) he1 (by omega)
   have ih2:=pf_tree y h.2.2.2 (by omega) (pre++x.flat) (p::rest) (st++[(x.prf,((x.lvF:Nat):Int)-1)]) (m+1) (by rw [he1];simp) (by simp;omega)
   rw [List.length_append,hxl] at ih2
   have hx:f.getD (pre.length+x.size+y.size) (Ty.dflt ty78)=p:=by
    rw [he1,←List.append_assoc,←List.append_assoc,←hxl,←hyl,←List.length_append,←List.length_append];exact qas _ _ rest _
   have hlen:=x.prf_len h.2.2.1
   have hlen2:=y.prf_len h.2.2.2
   have hu:=opn_bi h.1
   have ht:=told_bi hu p.2 x.prf y.prf (((x.lvF:Nat):Int)-1) (((y.lvF:Nat):Int)-1) (by omega) (by omega)
   have hst:st++[(x.prf,((x.lvF:Nat):Int)-1)]++[(y.prf,((y.lvF:Nat):Int)-1)]=st++[(x.prf,((x.lvF:Nat):Int)-1),(y.prf,((y.lvF:Nat):Int)-1)]:=by simp
   have hstp:=pf_step hl (pre.length+x.size+y.size) m st [(x.prf,((x.lvF:Nat):Int)-1),(y.prf,((y.lvF:Nat):Int)-1)] p _ _ (by omega) hx (by rw [h.1];rfl) (by simp) (by omega) ht
   rw [hf,show m+(x.size+y.size+1)=m+1+y.size+x.size by omega,ih,ih2,hst,hstp]
   have hd:decide (((x.lvF:Nat):Int)-1<(lfK (lvK p.1):Nat)-1)=decide (x.lvF<lfK (lvK p.1)):=by congr 1;exact propext ⟨fun h=>by omega,fun h=>by omega⟩
   have hd2:decide (((y.lvF:Nat):Int)-1<(rtK (lvK p.1):Nat)-1)=decide (y.lvF<rtK (lvK p.1)):=by congr 1;exact propext ⟨fun h=>by omega,fun h=>by omega⟩
   rw [hd,hd2,show pre.length+x.size+y.size+1=pre.length+(x.size+y.size+1) by omega]
   rfl
end
theorem fright_prog {t:Fm Trm} (ht:t.wf rightE) (hs:∀ p∈t.flat,shortP p) (h60:t.size≤60):M48 t.flat=some true:=by
 have hl:=t.flat_len
 rw [right_prog rightE t.flat (fun p hp=>qel p.2 (by have:=(hs p hp).1;omega)) ⟨by omega,fun p hp=>by have:=(hs p hp).1;omega⟩,tree_rightF rightE ht h60]
theorem fprint_prog {t:Fm Trm} (ht:t.wf rightE) (hs:∀ p∈t.flat,shortP p) (h60:t.size≤60):M42 t.flat=some t.prf:=by
 show T42 Ops.std M48 M82 M85 M84 t.flat (pfR t.flat 1000000) some none=_
 unfold T42
 have hl:=t.flat_len
 rw [fright_prog ht hs h60,ob_s]
 simp only [Bool.not_true,cond_false]
 have:=pf_tree (f:=t.flat) (by omega) t ht h60 [] [] [] (1000000-t.size) (by simp) (by simp;omega)
 rw [show 1000000-t.size+t.size=1000000 by omega] at this
 refine Eq.trans this ?_
 obtain ⟨m,hm⟩:∃ m,1000000-t.size=m+1:=⟨1000000-t.size-1,by omega⟩
 rw [hm]
 have hU:∀ (i:Int) (st:List Sfd),pfR t.flat (m+1) (.l0 (t.flat.length:Nat) i st)=T42 Ops.std M48 M82 M85 M84 t.flat (pfR t.flat m) some (some (.l0 (t.flat.length:Nat) i st)):=fun _ _=>rfl
 rw [hU]
 unfold T42
 simp only [qal,qan,qaa]
 rw [if_neg (by simp;omega),if_pos (by simp)]
 rfl
theorem qev {d:Df} {s:List UInt8} {b:Prop} [Decidable b] (h:∀ r,noWord r→LexTo s r d.toks) (r:List UInt8) (hr:noWord r):LexTo (brW (decide b) s) r (if b then Df.bra d else d).toks:=by
 by_cases hb:b
 ·rw [decide_eq_true hb,if_pos hb]
  have e:brW true s=[40]++(s++[41]):=by simp [brW]
  rw [e]
  exact (qb6 (c:=40) _ (by simp)).app ((h _ (noWord.cons rfl)).app (qb6 (c:=41) r (by simp)))
 ·rw [decide_eq_false hb,if_neg hb]
  exact h r hr
theorem prf_drv:∀ t:Fm Trm,t.wf rightE→∃ D:Df,D.ok∧D.tree=t∧D.lv=t.lvF∧hdOK t.prf∧∀ r,noWord r→LexTo t.prf r D.toks
 | .nul p,h=>by
   obtain ⟨h1,h2,h3⟩:=h
   rcases qet h1 with hp | hp | hp
   ·refine ⟨.con true,trivial,?_,rfl,?_,fun r hr=>?_⟩
    ·show Fm.nul (1,[])=Fm.nul p
     rw [←hp,←h3 (by omega)]
    ·simp only [Fm.prf,nulW];rw [if_pos hp];exact ⟨_,_,rfl,by decide,by decide⟩
    ·simp only [Fm.prf,nulW];rw [if_pos hp];exact lx_con true hr
   ·refine ⟨.con false,trivial,?_,rfl,?_,fun r hr=>?_⟩
    ·show Fm.nul (2,[])=Fm.nul p
     rw [←hp,←h3 (by omega)]
    ·simp only [Fm.prf,nulW];rw [if_neg (by omega),if_pos hp];exact ⟨_,_,rfl,by decide,by decide⟩
    ·simp only [Fm.prf,nulW];rw [if_neg (by omega),if_pos hp];exact lx_con false hr
   ·obtain ⟨t,t1,t2,t3,t4,_⟩:=exW_is (h2 hp)
    have hw:nulW p=[91]++(t.prx++[93]):=by
     unfold nulW
     rw [if_neg (by omega),if_neg (by omega),t4,List.append_assoc]
    refine ⟨.atm t.dx,⟨dx_ok t t1,by rw [qep];exact t3⟩,?_,rfl,?_,fun r hr=>?_⟩
    ·show Fm.nul (3,t.dx.tree.flat)=Fm.nul p
     rw [qep,←t2,←hp]
    ·simp only [Fm.prf,hw];exact ⟨_,_,rfl,by decide,by decide⟩
    ·simp only [Fm.prf,hw]
     exact (qb6 (c:=91) _ (by simp)).app ((prx_lex t t1 _ (noWord.cons rfl)).app (qb6 (c:=93) r (by simp)))
 | .un p x,h=>by
   obtain ⟨D,d1,d2,d3,d4,d5⟩:=prf_drv x h.2.2
   have hu:=opn_un h.1
   have hb:hdOK (brW (decide (x.lvF<5)) x.prf):=brW_hd d4
   have key:(if x.lvF<5 then Df.bra D else D).ok∧(if x.lvF<5 then Df.bra D else D).tree=x∧5≤(if x.lvF<5 then Df.bra D else D).lv:=by
    split
    ·exact ⟨d1,d2,by show 5≤6;omega⟩
    ·exact ⟨d1,d2,by omega⟩
   refine ⟨.un p.1 (if x.lvF<5 then .bra D else D),⟨hu,key.2.2,key.1⟩,?_,rfl,?_,fun r hr=>?_⟩
   ·show Fm.un (p.1,[]) _=Fm.un p x
    rw [key.2.1,←h.2.1]
   ·simp only [Fm.prf]
    rcases hu with e | e | e | e<;>rw [e]<;>exact ⟨_,_,rfl,by decide,by decide⟩
   ·simp only [Fm.prf]
    obtain ⟨c,q,e1,e2,e3⟩:=hb.app r
    have:=(lx_una hu (s:=brW (decide (x.lvF<5)) x.prf) (r:=r) (by
     obtain ⟨c,q,e1,e2,e3⟩:=hb
     exact ⟨c,q,e1,e2⟩)).app (qev d5 r hr)
    exact this
 | .bi p x y,h=>by
   obtain ⟨D,d1,d2,d3,d4,d5⟩:=prf_drv x h.2.2.1
   obtain ⟨E,e1,e2,e3,e4,e5⟩:=prf_drv y h.2.2.2
   have hu:=opn_bi h.1
   have hlv:=lvK_le (k:=p.1)
   have hlf:lfK (lvK p.1)≤6:=by unfold lfK;split<;>omega
   have hrt:rtK (lvK p.1)≤6:=by unfold rtK;split<;>omega
   have kx:(if x.lvF<lfK (lvK p.1) then Df.bra D else D).ok∧(if x.lvF<lfK (lvK p.1) then Df.bra D else D).tree=x∧lfK (lvK p.1)≤(if x.lvF<lfK (lvK p.1) then Df.bra D else D).lv:=by
    split
    ·exact ⟨d1,d2,hlf⟩
    ·exact ⟨d1,d2,by omega⟩
   have ky:(if y.lvF<rtK (lvK p.1) then Df.bra E else E).ok∧(if y.lvF<rtK (lvK p.1) then Df.bra E else E).tree=y∧rtK (lvK p.1)≤(if y.lvF<rtK (lvK p.1) then Df.bra E else E).lv:=by
    split
    ·exact ⟨e1,e2,hrt⟩
    ·exact ⟨e1,e2,by omega⟩
   refine ⟨.bi p.1 (if x.lvF<lfK (lvK p.1) then .bra D else D) (if y.lvF<rtK (lvK p.1) then .bra E else E),⟨hu,kx.2.2,ky.2.2,kx.1,ky.1⟩,?_,rfl,?_,fun r hr=>?_⟩
   ·show Fm.bi (p.1,[]) _ _=Fm.bi p x y
    rw [kx.2.1,ky.2.1,←h.2.1]
   ·simp only [Fm.prf]
    exact ((brW_hd d4).app _).app _
   ·simp only [Fm.prf,List.append_assoc]
    refine (qev d5 _ ?_).app ((lx_bin hu _).app (qev e5 r hr))
    rw [List.append_assoc]
    exact noWord.bin hu _
def Tells (o:Option Bool) (p:Prop):Prop:=∃ b,o=some b∧(b=true↔p)
theorem qdp {α:Type} (f g:List α) (d:α) (hl:f.length=g.length) (Run:Nat→Nat→Option Bool)
  (hstep:∀ n i,i<f.length→∃ c:Bool,(c=true↔f.getD i d=g.getD i d)∧Run (n+1) i=cond c (Run n (i+1)) (some false))
  (hend:∀ n,Run (n+1) f.length=some true):∀ (t i n:Nat),i+t=f.length→t<n→(∀ j,j<i→f.getD j d=g.getD j d)→Tells (Run n i) (f=g)
 | t,i,0,hi,hn,hj=>by omega
 | 0,i,n+1,hi,hn,hj=>by
   have:i=f.length:=by omega
   subst this
   refine ⟨true,hend n,⟨fun _=>?_,fun _=>rfl⟩⟩
   apply List.ext_getElem hl
   intro k h1 h2
   have:=hj k h1
   rw [List.getD_eq_getElem?_getD,List.getD_eq_getElem?_getD,List.getElem?_eq_getElem h1,List.getElem?_eq_getElem h2] at this
   simpa using this
 | t+1,i,n+1,hi,hn,hj=>by
   obtain ⟨c,hc,hr⟩:=hstep n i (by omega)
   rw [hr]
   cases hcc:c with
   | true=>
     simp only [cond_true]
     refine qdp f g d hl Run hstep hend t (i+1) n (by omega) (by omega) fun j hj'=>?_
     by_cases h:j=i
     ·subst h;exact hc.1 hcc
     ·exact hj j (by omega)
   | false=>
     refine ⟨false,rfl,?_⟩
     constructor
     ·intro h;cases h
     ·intro h
      exfalso
      have:c=true:=hc.2 (by rw [h])
      rw [hcc] at this;cases this
theorem trm_eq (s t:Trm):(decide (s.1=t.1) && (decide (s.2.1=t.2.1) && (s.2.2.1 == t.2.2.1 && (s.2.2.2 == t.2.2.2 && true))))=true↔s=t:=by
 obtain ⟨a,b,c,d⟩:=s
 obtain ⟨a',b',c',d'⟩:=t
 simp only [Bool.and_eq_true,decide_eq_true_eq,beq_iff_eq,and_true,Prod.mk.injEq]
theorem cond_not {α:Type} (c:Bool) (x y:α):cond (!c) x y=cond c y x:=by cases c<;>rfl
section
variable {e e':List Trm}
theorem same_len {α:Type} {f g:List α} (h:¬ f.length=g.length):¬ f=g:=fun e=>h (by rw [e])
theorem sameE_prog (hl:e.length<900000):Tells (M65 e e') (e=e'):=by
 show Tells (T65 Ops.std e e' (R65 e e' 1000000) some none) _
 unfold T65
 simp only [qao,qa6,qaa]
 by_cases h:e.length=e'.length
 ·rw [if_neg (by omega)]
  refine qdp e e' (Ty.dflt ty56) h (fun n i=>R65 e e' n (.l0 (e.length:Nat) (i:Nat))) (fun n i hi=>?_) (fun n=>?_) e.length 0 1000000 (by omega) (by omega) (fun j hj=>by omega)
  ·refine ⟨_,trm_eq _ _,?_⟩
   show T65 Ops.std e e' _ some _=_
   unfold T65
   simp only [qal,qan,qao,qaa,qah,cond_not]
   rw [if_pos (by omega),if_pos (by omega),if_pos (by omega),show IntKind.wrap IntKind.i64 ((i:Int)+1)=((i+1:Nat):Int) from qag (by omega)]
  ·show T65 Ops.std e e' _ some _=_
   unfold T65
   simp only [qal,qaa]
   rw [if_neg (by omega)]
 ·rw [if_pos (by omega)]
  exact ⟨false,rfl,by simp [same_len h]⟩
theorem sameEe_prog (hl:e.length<900000):Tells (M27 e e') (e=e'):=by
 obtain ⟨b,h1,h2⟩:=sameE_prog (e':=e') hl
 refine ⟨b,?_,h2⟩
 show T27 Ops.std M65 e e' some=_
 unfold T27
 rw [h1,ob_s]
end
theorem prt_eq (s t:Prt):s=t↔s.1=t.1∧s.2=t.2:=by
 constructor
 ·intro h;rw [h];exact ⟨rfl,rfl⟩
 ·intro h;cases s;cases t;simp at h;simp [h]
section
variable {f g:List Prt}
theorem sameF1_prog (p q:Prt) (h:p.2.length<900000):Tells (M87 p.1 p.2 q.1 q.2) (p=q):=by
 obtain ⟨b,h1,h2⟩:=sameEe_prog (e:=p.2) (e':=q.2) h
 show Tells (T87 Ops.std M27 p.1 p.2 q.1 q.2 some) _
 unfold T87
 simp only [qao,qaa]
 by_cases hk:p.1=q.1
 ·rw [if_pos hk,h1,ob_s]
  exact ⟨b,rfl,by rw [prt_eq,h2];simp [hk]⟩
 ·rw [if_neg hk]
  exact ⟨false,rfl,by rw [prt_eq];simp [hk]⟩
theorem sameF_eqf (hf:smallF f):Tells (M86 f g) (f=g):=by
 have hl:=hf.1
 show Tells (T86 Ops.std M87 f g (R86 M87 f g 1000000) some none) _
 unfold T86
 simp only [qao,qa6,qaa]
 by_cases h:f.length=g.length
 ·rw [if_neg (by omega)]
  refine qdp f g (Ty.dflt ty78) h (fun n i=>R86 M87 f g n (.l0 (f.length:Nat) (i:Nat))) (fun n i hi=>?_) (fun n=>?_) f.length 0 1000000 (by omega) (by omega) (fun j hj=>by omega)
  ·obtain ⟨b,h1,h2⟩:=sameF1_prog (f.getD i (Ty.dflt ty78)) (g.getD i (Ty.dflt ty78)) (hf.at hi)
   refine ⟨b,h2,?_⟩
   show T86 Ops.std _ f g _ some _=_
   unfold T86
   simp only [qal,qan,qao,qaa,qah,cond_not]
   rw [if_pos (by omega),if_pos (by omega),if_pos (by omega),h1,ob_s,show IntKind.wrap IntKind.i64 ((i:Int)+1)=((i+1:Nat):Int) from qag (by omega)]
  ·show T86 Ops.std _ f g _ some _=_
   unfold T86
   simp only [qal,qaa]
   rw [if_neg (by omega)]
 ·rw [if_pos (by omega)]
  exact ⟨false,rfl,by simp [same_len h]⟩
theorem sameF_prog (hf:smallF f):Tells (M43 f g) (f=g):=by
 obtain ⟨b,h1,h2⟩:=sameF_eqf (g:=g) hf
 refine ⟨b,?_,h2⟩
 show T43 Ops.std M86 M87 f g some=_
 unfold T43
 rw [h1,ob_s]
end
theorem tells_t {o:Option Bool} {p:Prop} (h:Tells o p) (hp:p):o=some true:=by
 obtain ⟨b,h1,h2⟩:=h
 rw [h1,h2.2 hp]
theorem pickN (x:Int) (n:Nat) (h0:0<n) (h1:n<1000000):∃ k:Nat,k<n∧M24 x (n:Nat)=some (k:Int):=by
 show ∃ k:Nat,k<n∧T24 Ops.std x (n:Nat) some=_
 unfold T24
 simp only [qao,qal,qaa]
 rw [if_neg (by omega)]
 have h2:=Int.tmod_lt_of_pos x (show (0:Int)<(n:Nat) by omega)
 have h3:=Int.lt_tmod_of_pos x (show (0:Int)<(n:Nat) by omega)
 generalize Int.tmod x (n:Nat)=q at h2 h3 ⊢
 by_cases hq:q<0
 ·refine ⟨(q+n).toNat,by omega,?_⟩
  rw [if_pos hq,wrap64 (by omega) (by omega)]
  congr 1;omega
 ·refine ⟨q.toNat,by omega,?_⟩
  rw [if_neg hq]
  congr 1;omega
theorem qdq (l:List Int) (pl:Nat) (a:Nat) (ha:a≤1000) (n:Nat) (h0:0<n) (h1:n<1000):∃ (k a':Nat),k<n∧a≤a'∧a'≤a+1∧M90 (n:Nat) l (a:Nat)=some ((k:Int),l,(a':Int)):=by
 show ∃ (k a':Nat),k<n∧a≤a'∧a'≤a+1∧T90 Ops.std M24 (n:Nat) l (a:Nat) some=_
 unfold T90
 simp only [qao,qan,qaa]
 by_cases hl:(l.length:Int)=0
 ·rw [if_pos hl]
  exact ⟨0,a,h0,Nat.le_refl _,by omega,rfl⟩
 ·have hw:IntKind.wrap IntKind.i64 ((a:Int)+1)=((a+1:Nat):Int):=qag (by omega)
  rw [if_neg hl,if_neg hl,hw]
  have ht:Int.tmod ((a+1:Nat):Int) (l.length:Nat)=(((a+1) % l.length:Nat):Int):=by rw [←Int.ofNat_tmod]
  have hd:Int.tdiv ((a+1:Nat):Int) (l.length:Nat)=(((a+1) / l.length:Nat):Int):=by rw [←Int.ofNat_tdiv]
  rw [ht,hd]
  have hlp:0<l.length:=by omega
  have hm:=Nat.mod_lt (a+1) hlp
  have hq:(a+1) / l.length≤a+1:=Nat.div_le_self _ _
  generalize (a+1) / l.length=q at hq ⊢
  generalize (a+1) % l.length=m at hm ⊢
  rw [if_pos (by omega),if_neg hl,wrap64 (n:=(q:Int)) (by omega) (by omega),wrap64 (n:=1+(q:Int)) (by omega) (by omega),if_neg (by omega)]
  obtain ⟨k,hk,hp⟩:=pickN (IntKind.wrap IntKind.i64 (Int.tdiv (l.getD (Int.toNat (m:Int)) (Ty.dflt ty3)) (1+(q:Int)))) n h0 (by omega)
  rw [hp,ob_s]
  exact ⟨k,a+1,hk,by omega,by omega,rfl⟩
def fB:Nat→Nat
 | 0=>20
 | h+1=>2*fB h+20
def fA:Nat→Nat
 | 0=>3
 | h+1=>2*fA h+3
theorem fB_le:∀ h,h≤3→fB h≤300∧fA h≤45:=by
 intro h hh
 match h with
 | 0 | 1 | 2 | 3=>decide
def FOk (l:List Int) (o:Option (List UInt8×List Int×Int)) (a b c:Nat):Prop:=∃ (s:List UInt8) (a':Nat),o=some (s,l,(a':Int))∧s.length≤b∧a≤a'∧a'≤a+c
theorem qd5 {l:List (List UInt8)} {n:Nat} (h:l.all (fun x=>decide (x.length≤n))=true) (k:Nat):(l.getD k []).length≤n:=by
 rw [List.getD_eq_getElem?_getD]
 cases hk:l[k]? with
 | none=>simp
 | some x=>
   rw [List.all_eq_true] at h
   simpa using h x (List.mem_of_getElem? hk)
theorem form_k (l:List Int) (deep:Int) (d:Nat) (dp0:Int) (l0:List Int) (a0:Int) (B A:Nat) (hB:B≤300) (hA:A≤45) (k:Nat) (hk:k<22) (V:Nat) (hV:V≤900) (hrec:k<18→∀ a:Nat,a≤V→FOk l (Rec81 d (IntKind.wrap IntKind.i64 (deep+1)) l a) a B A) (a:Nat) (ha:a+60≤V) (n:Nat) :
  FOk l (R81 M90 (Rec81 d) deep l0 a0 (n+1) (.l1004 k l a)) a (2*B+20) (2*A+2):=by
 show FOk l (T81 Ops.std M90 (Rec81 d) deep l0 a0 _ some _) a _ _
 unfold T81
 simp only [qal,qao,qan,qap,qaa,mt]
 by_cases h3:(k:Int)<3
 ·obtain ⟨s,a1,e1,e2,e3,e4⟩:=hrec (by omega) a (by omega)
  rw [if_pos h3,e1,ob_s]
  dsimp only
  simp only [List.length_append,List.length_cons,List.length_nil]
  rw [if_pos (by omega),if_pos (by omega)]
  exact ⟨_,a1,rfl,by simp;omega,by omega,by omega⟩
 ·rw [if_neg h3]
  by_cases h6:(k:Int)<6
  ·obtain ⟨s,a1,e1,e2,e3,e4⟩:=hrec (by omega) a (by omega)
   rw [if_pos h6,e1,ob_s]
   dsimp only
   simp only [List.length_append,List.length_cons,List.length_nil]
   rw [if_pos (by omega),if_pos (by omega)]
   exact ⟨_,a1,rfl,by simp;omega,by omega,by omega⟩
  ·rw [if_neg h6]
   by_cases h8:(k:Int)<8
   ·obtain ⟨s,a1,e1,e2,e3,e4⟩:=hrec (by omega) a (by omega)
    rw [if_pos h8,e1,ob_s]
    dsimp only
    rw [if_pos (by omega)]
    exact ⟨_,a1,rfl,by simp;omega,by omega,by omega⟩
   ·rw [if_neg h8]
    by_cases h11:(k:Int)<11
    ·obtain ⟨s,a1,e1,e2,e3,e4⟩:=hrec (by omega) a (by omega)
     rw [if_pos h11,e1,ob_s]
     dsimp only
     obtain ⟨j,a2,g1,g2,g3,g4⟩:=qdq l 0 a1 (by omega) 2 (by omega) (by omega)
     have g4':M90 2 l (a1:Int)=some ((j:Int),l,(a2:Int)):=g4
     rw [if_pos (by omega),g4',ob_s]
     dsimp only
     rw [if_pos (by omega)]
     obtain ⟨s2,a3,f1,f2,f3,f4⟩:=hrec (by omega) a2 (by omega)
     have hlen:=qd5 (n:=3) (l:=[([32,85,32]:List UInt8),([32,82,32]:List UInt8)]) rfl (Int.toNat (j:Int))
     generalize ([([32,85,32]:List UInt8),([32,82,32]:List UInt8)]:List (List UInt8)).getD (Int.toNat (j:Int)) []=x at hlen ⊢
     simp only [List.length_append,List.length_cons,List.length_nil]
     rw [if_pos (by omega),f1,ob_s]
     dsimp only
     rw [if_pos (by omega),if_pos (by omega)]
     exact ⟨_,a3,rfl,by simp;omega,by omega,by omega⟩
    ·rw [if_neg h11]
     by_cases h15:(k:Int)<15
     ·obtain ⟨s,a1,e1,e2,e3,e4⟩:=hrec (by omega) a (by omega)
      rw [if_pos h15,e1,ob_s]
      dsimp only
      obtain ⟨j,a2,g1,g2,g3,g4⟩:=qdq l 0 a1 (by omega) 3 (by omega) (by omega)
      have g4':M90 3 l (a1:Int)=some ((j:Int),l,(a2:Int)):=g4
      rw [if_pos (by omega),g4',ob_s]
      dsimp only
      rw [if_pos (by omega)]
      obtain ⟨s2,a3,f1,f2,f3,f4⟩:=hrec (by omega) a2 (by omega)
      have hlen:=qd5 (n:=4) (l:=[([32,38,38,32]:List UInt8),([32,124,124,32]:List UInt8),([32,45,62,32]:List UInt8)]) rfl (Int.toNat (j:Int))
      generalize ([([32,38,38,32]:List UInt8),([32,124,124,32]:List UInt8),([32,45,62,32]:List UInt8)]:List (List UInt8)).getD (Int.toNat (j:Int)) []=x at hlen ⊢
      simp only [List.length_append,List.length_cons,List.length_nil]
      rw [if_pos (by omega),f1,ob_s]
      dsimp only
      rw [if_pos (by omega),if_pos (by omega)]
      exact ⟨_,a3,rfl,by simp;omega,by omega,by omega⟩
     ·rw [if_neg h15]
      by_cases h17:(k:Int)<17
      ·obtain ⟨s,a1,e1,e2,e3,e4⟩:=hrec (by omega) a (by omega)
       rw [if_pos h17,e1,ob_s]
       dsimp only
       rw [if_pos (by omega)]
       exact ⟨_,a1,rfl,by simp;omega,by omega,by omega⟩
      ·rw [if_neg h17]
       by_cases h17':(k:Int)=17
       ·obtain ⟨s,a1,e1,e2,e3,e4⟩:=hrec (by omega) a (by omega)
        rw [if_pos h17',e1,ob_s]
        dsimp only
        rw [if_pos (by omega)]
        exact ⟨_,a1,rfl,by simp;omega,by omega,by omega⟩
       ·rw [if_neg h17']
        by_cases h18:(k:Int)=18
        ·rw [if_pos h18]
         obtain ⟨j,a2,g1,g2,g3,g4⟩:=qdq l 0 a (by omega) 2 (by omega) (by omega)
         have g4':M90 2 l (a:Int)=some ((j:Int),l,(a2:Int)):=g4
         rw [g4',ob_s]
         dsimp only
         rw [if_pos (by omega)]
         have hlen:=qd5 (n:=5) (l:=[([116,114,117,101]:List UInt8),([102,97,108,115,101]:List UInt8)]) rfl (Int.toNat (j:Int))
         exact ⟨_,a2,rfl,by omega,by omega,by omega⟩
        ·rw [if_neg h18]
         obtain ⟨j,a2,g1,g2,g3,g4⟩:=qdq l 0 a (by omega) 6 (by omega) (by omega)
         have g4':M90 6 l (a:Int)=some ((j:Int),l,(a2:Int)):=g4
         rw [g4',ob_s]
         dsimp only
         rw [if_pos (by omega)]
         have hlen:=qd5 (n:=10) (l:=[([91,120,61,61,49,93]:List UInt8),([91,112,64,97,93]:List UInt8),([91,121,60,49,93]:List UInt8),([91,113,64,98,38,38,120,62,48,93]:List UInt8),([91,120,61,61,121,93]:List UInt8),([91,112,64,98,93]:List UInt8)]) rfl (Int.toNat (j:Int))
         exact ⟨_,a2,rfl,by omega,by omega,by omega⟩
theorem FOk.mono {l:List Int} {o:Option (List UInt8×List Int×Int)} {a b c b' c':Nat} (h:FOk l o a b c) (hb:b≤b') (hc:c≤c'):FOk l o a b' c':=by
 obtain ⟨s,a',e1,e2,e3,e4⟩:=h
 exact ⟨s,a',e1,by omega,e3,by omega⟩
theorem form_h (l:List Int):∀ (h:Nat),h≤3→∀ (d:Nat),h<d→∀ (a:Nat),a≤400-100*h→FOk l (Rec81 d ((3-h:Nat):Int) l a) a (fB h) (fA h):=by
 intro h
 induction h with
 | zero=>
   intro hh d hd a ha
   obtain ⟨e,rfl⟩:∃ e,d=e+1:=⟨d-1,by omega⟩
   show FOk l (T81 Ops.std M90 (Rec81 e) ((3-0:Nat):Int) l a (R81 M90 (Rec81 e) ((3-0:Nat):Int) l a 1000000) some none) a _ _
   unfold T81
   obtain ⟨k,a1,e1,e2,e3,e4⟩:=qdq l 0 a (by omega) 22 (by omega) (by omega)
   have e4':M90 22 l (a:Int)=some ((k:Int),l,(a1:Int)):=e4
   rw [e4',ob_s]
   simp only [qal,qao,qaa]
   rw [if_pos (by omega),if_neg (by omega)]
   have ht:Int.tmod (k:Int) 4=((k % 4:Nat):Int):=by rw [show (4:Int)=((4:Nat):Int) from rfl,←Int.ofNat_tmod]
   rw [ht,show IntKind.wrap IntKind.i64 (18+((k % 4:Nat):Int))=((18+k % 4:Nat):Int) by rw [wrap64 (by omega) (by omega)];omega]
   have:=form_k l ((3-0:Nat):Int) e ((3-0:Nat):Int) l (a:Int) 0 0 (by omega) (by omega) (18+k % 4) (by omega) 900 (by omega) (fun h=>by omega) a1 (by omega) 999999
   obtain ⟨s,a',g1,g2,g3,g4⟩:=this
   exact ⟨s,a',g1,by simp [fB];omega,by omega,by simp [fA];omega⟩
 | succ h ih=>
   intro hh d hd a ha
   obtain ⟨e,rfl⟩:∃ e,d=e+1:=⟨d-1,by omega⟩
   have hb:=fB_le h (by omega)
   show FOk l (T81 Ops.std M90 (Rec81 e) ((3-(h+1):Nat):Int) l a (R81 M90 (Rec81 e) ((3-(h+1):Nat):Int) l a 1000000) some none) a _ _
   unfold T81
   obtain ⟨k,a1,e1,e2,e3,e4⟩:=qdq l 0 a (by omega) 22 (by omega) (by omega)
   have e4':M90 22 l (a:Int)=some ((k:Int),l,(a1:Int)):=e4
   rw [e4',ob_s]
   simp only [qal,qao,qaa]
   rw [if_neg (by omega)]
   have hdeep:IntKind.wrap IntKind.i64 (((3-(h+1):Nat):Int)+1)=((3-h:Nat):Int):=by rw [wrap64 (by omega) (by omega)];omega
   have hrec:∀ a:Nat,a≤400-100*h→FOk l (Rec81 e (IntKind.wrap IntKind.i64 (((3-(h+1):Nat):Int)+1)) l a) a (fB h) (fA h):=fun a ha=>by
    rw [hdeep];exact ih (by omega) e (by omega) a ha
   have step:=fun (k:Nat) (hk:k<22)=>form_k l ((3-(h+1):Nat):Int) e ((3-(h+1):Nat):Int) l (a:Int) (fB h) (fA h) (by omega) (by omega) k hk (400-100*h) (by omega) (fun _=>hrec) a1 (by omega) 999999
   have fin:∀ o,FOk l o a1 (2*fB h+20) (2*fA h+2)→FOk l o a (fB (h+1)) (fA (h+1)):=fun o ho=>by
    obtain ⟨s,a',g1,g2,g3,g4⟩:=ho
    exact ⟨s,a',g1,by simp only [fB];omega,by omega,by simp only [fA];omega⟩
   have ht:Int.tmod (k:Int) 4=((k % 4:Nat):Int):=by rw [show (4:Int)=((4:Nat):Int) from rfl,←Int.ofNat_tmod]
   split
   ·rw [if_neg (by omega),ht,show IntKind.wrap IntKind.i64 (18+((k % 4:Nat):Int))=((18+k % 4:Nat):Int) by rw [wrap64 (by omega) (by omega)];omega]
    exact fin _ (step (18+k % 4) (by omega))
   ·exact fin _ (step k e1)
theorem formula_ok (l:List Int):∃ s:List UInt8,M40 l=some s∧s.length≤300:=by
 obtain ⟨s,a',e1,e2,e3,e4⟩:=form_h l 3 (by omega) 1000000 (by omega) 0 (by omega)
 refine ⟨s,?_,Nat.le_trans e2 (by decide)⟩
 show T40 Ops.std M81 l some=_
 unfold T40
 have e1':M81 0 l 0=some (s,l,(a':Int)):=e1
 rw [e1',ob_s]
theorem known13_ok:M38=some true:=by kernel_rfl
def rowK (b i:Nat) (r:List Int):Prop:=∀ j,j<r.length→∃ p:Nat,r.getD j 0=(p:Int)∧b≤p∧p<b+i∧(0<j→r.getD (j-1) 0<(p:Int))
theorem rowK.nil (b i:Nat):rowK b i []:=fun j h=>by simp at h
section
variable {p0:List Int} {f:List Prt} {K:List (List Int)} {n:Nat} (hK:K.length=n) (hf:f.length=n) (hn:n≤100) (hr:∀ i,i<n→rowK 0 i (K.getD i [])) (h2:∀ r∈K,r.length≤2)
include hK hf hn hr h2
end
theorem condT13 {X Y:Option Bool} {b:Bool} (h:b=true):cond b X Y=X:=by rw [h];rfl
def f5 (b:UInt8):Bool:=b == 40 || (b == 41 || (b == 91 || (b == 93 || b == 32)))
theorem cnt5 {w:List UInt8} (h:∀ b∈w,f5 b=false):w.countP f5=0:=by
 rw [List.countP_eq_zero]
 intro b hb
 rw [h b hb]
 decide
theorem f5_free {c:UInt8} (h:freeB c=false):f5 c=false:=by
 unfold freeB at h
 unfold f5
 simp only [Bool.or_eq_false_iff] at h ⊢
 exact ⟨h.1,h.2.1,h.2.2.2.2.2.1,h.2.2.2.2.2.2.1,h.2.2.2.2.2.2.2⟩
theorem word_5 {w:List UInt8} (h:isWordP w=true):w.countP f5=0:=cnt5 fun b hb=>f5_free (word_nf b (by
 cases w with
 | nil=>cases hb
 | cons c w=>
   simp only [isWordP,Bool.and_eq_true] at h
   rcases List.mem_cons.1 hb with rfl | hb
   ·exact qbq h.1.1
   ·exact List.all_eq_true.1 h.1.2 b hb)).1
theorem leaf_5 {t:Trm} (h:nulT t):(leafW t).countP f5=0:=by
 unfold leafW
 split
 ·rename_i h1
  exact cnt5 fun b hb=>f5_free (digit_nf b (List.all_eq_true.1 (dgT_is (qc3 h.1 h1)).2.1 b hb)).1
 ·split
  ·rename_i h2
   exact word_5 (nulT_2 h h2)
  ·have h3:t.1=3:=by have:=h.2;omega
   rw [List.countP_append,List.countP_append,word_5 (qeq h h3).1,word_5 (qeq h h3).2]
   rfl
theorem brW_5 (b:Bool) (s:List UInt8):(brW b s).countP f5≤2+s.countP f5:=by
 cases b with
 | true=>
   have e:brW true s=[40]++(s++[41]):=by simp [brW]
   rw [e,List.countP_append,List.countP_append,show ([40]:List UInt8).countP f5=1 from rfl,show ([41]:List UInt8).countP f5=1 from rfl]
   omega
 | false=>simp [brW]
theorem prx_5:∀ t:Et,t.wf→t.prx.countP f5≤4*t.flat.length
 | .nul t,h=>by
   have:=leaf_5 h
   simp only [Et.prx];omega
 | .un k x,h=>by
   have:=prx_5 x h.2
   have h1:=brW_5 (decide (x.lv<6)) x.prx
   have h2:(unW k).countP f5=0:=by rcases h.1 with rfl | rfl<;>rfl
   simp only [Et.prx,List.countP_append,Et.flat,List.length_append,List.length_cons,List.length_nil] at h1 ⊢
   omega
 | .bi k x y,h=>by
   have:=prx_5 x h.2.1
   have:=prx_5 y h.2.2
   have h1:=brW_5 (decide (x.lv<lfO (lvO k))) x.prx
   have h3:=brW_5 (decide (y.lv<lvO k+1)) y.prx
   have h2:(opW k).countP f5=0:=by
    rcases qci h.1 with rfl | rfl | rfl | rfl | rfl | rfl | rfl | rfl | rfl | rfl | rfl<;>rfl
   simp only [Et.prx,List.countP_append,Et.flat,List.length_append,List.length_cons,List.length_nil] at h1 h3 ⊢
   omega
theorem prf_5:∀ t:Fm Trm,t.wf rightE→t.prf.countP f5≤130*t.size
 | .nul p,h=>by
   obtain ⟨h1,h2,h3⟩:=h
   simp only [Fm.prf,Fm.size,nulW]
   rcases qet h1 with hp | hp | hp
   ·rw [if_pos hp];decide
   ·rw [if_neg (by omega),if_pos hp];decide
   ·obtain ⟨t,t1,t2,t3,t4,_⟩:=exW_is (h2 hp)
    have:=prx_5 t t1
    rw [if_neg (by omega),if_neg (by omega),t4,List.countP_append,List.countP_append,show ([91]:List UInt8).countP f5=1 from rfl,show ([93]:List UInt8).countP f5=1 from rfl]
    omega
 | .un p x,h=>by
   have:=prf_5 x h.2.2
   have h1:=brW_5 (decide (x.lvF<5)) x.prf
   have h2:(unaW p.1).countP f5≤2:=Nat.le_trans List.countP_le_length (unaW_len p.1)
   simp only [Fm.prf,Fm.size,List.countP_append]
   omega
 | .bi p x y,h=>by
   have:=prf_5 x h.2.2.1
   have:=prf_5 y h.2.2.2
   have h1:=brW_5 (decide (x.lvF<lfK (lvK p.1))) x.prf
   have h3:=brW_5 (decide (y.lvF<rtK (lvK p.1))) y.prf
   have h2:(binW p.1).countP f5≤4:=Nat.le_trans List.countP_le_length (binW_len p.1)
   simp only [Fm.prf,Fm.size,List.countP_append]
   omega
theorem asc_br {c:Bool} {s:List UInt8} (h:∀ b∈s,b.toNat<128):∀ b∈brW c s,b.toNat<128:=fun b hb=>by
 cases c with
 | true=>
   simp only [brW,if_true,List.mem_append,List.mem_singleton] at hb
   rcases hb with (rfl | hb) | rfl
   ·decide
   ·exact h b hb
   ·decide
 | false=>exact h b hb
theorem qc4:∀ t:Fm Trm,t.wf rightE→∀ b∈t.prf,b.toNat<128
 | .nul p,h,b,hb=>by
   obtain ⟨h1,h2,h3⟩:=h
   simp only [Fm.prf,nulW] at hb
   rcases qet h1 with hp | hp | hp
   ·rw [if_pos hp] at hb
    revert b
    decide
   ·rw [if_neg (by omega),if_pos hp] at hb
    revert b
    decide
   ·obtain ⟨t,t1,t2,t3,t4,_⟩:=exW_is (h2 hp)
    rw [if_neg (by omega),if_neg (by omega),t4] at hb
    simp only [List.mem_append,List.mem_singleton] at hb
    rcases hb with (rfl | hb) | rfl
    ·decide
    ·exact prx_ascii t t1 b hb
    ·decide
 | .un p x,h,b,hb=>by
   simp only [Fm.prf,List.mem_append] at hb
   rcases hb with hb | hb
   ·rcases opn_un h.1 with e | e | e | e<;>rw [e] at hb<;>revert b<;>decide
   ·exact asc_br (qc4 x h.2.2) b hb
 | .bi p x y,h,b,hb=>by
   simp only [Fm.prf,List.mem_append] at hb
   rcases hb with (hb | hb) | hb
   ·exact asc_br (qc4 x h.2.2.1) b hb
   ·rcases opn_bi h.1 with e | e | e | e | e<;>rw [e] at hb<;>revert b<;>decide
   ·exact asc_br (qc4 y h.2.2.2) b hb
theorem fbl_parse {D:Df} (hd:D.ok) (h24:D.tree.size≤24) {s q:List UInt8} (h:LexTo s [] D.toks) (hs:s.length≤60000) (hb:Bl s q) (hq:q.length≤60000):FParseIs q (0,0,D.tree.flat):=by
 obtain ⟨tks,x,h1,h2⟩:=lex_all h hs
 obtain ⟨l',h3,h4⟩:=lexS_bl hb h1 hq
 rw [List.map_append,h2] at h4
 obtain ⟨tks',l2,rfl,h5,h6⟩:=List.map_eq_append_iff.1 h4
 have:∃ x':Int,l2=[(5,[],0,x')]:=by
  cases l2 with
  | nil=>cases h6
  | cons y l3=>
    cases l3 with
    | nil=>
      simp only [List.map_cons,List.map_nil,List.cons.injEq,and_true] at h6
      obtain ⟨a,b,c,d⟩:=y
      have h6:((a,b,c):TokS)=(5,[],0):=h6
      cases h6
      exact ⟨d,rfl⟩
    | cons=>simp at h6
 obtain ⟨x',rfl⟩:=this
 exact Df.parse2 hd h24 h3 h5
theorem pieceF {s:List UInt8} {i:Nat} (h:i<s.length):List.drop i (List.take (i+1) s)=[s.getD i 0]:=by
 rw [List.drop_take,qbp 0 h]
 have:i+1-i=1:=by omega
 rw [this]
 rfl
theorem tb_blank13 (k:Nat) (hk:k<4):(List.getD ([]::([32]:List UInt8)::([9]:List UInt8)::([10,32]:List UInt8)::[]) k []).all blankP=true∧(List.getD ([]::([32]:List UInt8)::([9]:List UInt8)::([10,32]:List UInt8)::[]) k []).length≤2:=by
 match k,hk with
 | 0,_=>exact ⟨rfl,by decide⟩
 | 1,_=>exact ⟨rfl,by decide⟩
 | 2,_=>exact ⟨rfl,by decide⟩
 | 3,_=>exact ⟨rfl,by decide⟩
noncomputable abbrev bfR (p0 p1:List Int):=R12 M38 M40 M39 M42 M24 M43 p0 p1
theorem fblanks_l0 {p0 p1:List Int} {t:Fm Trm} (ht:t.wf rightE) (hl:t.size≤24) (hsm:smallF t.flat) (q:Nat):∀ (pos m:Nat) (acc:List UInt8),pos+q=t.prf.length→q<m→Bl (t.prf.take pos) acc→acc.length≤pos+4*(t.prf.take pos).countP f5→bfR p0 p1 m (.l0 t.prf acc t.flat t.prf pos)=some true:=by
 have hlen:=t.prf_len ht
 have h5:=prf_5 t ht
 obtain ⟨D,d1,d2,_,_,d5⟩:=prf_drv t ht
 induction q with
 | zero=>
   intro pos m acc hq hm hb ha
   obtain ⟨m,rfl⟩:∃ n,m=n+1:=⟨m-1,by omega⟩
   have hU:bfR p0 p1 (m+1) (.l0 t.prf acc t.flat t.prf pos)=T12 Ops.std M38 M40 M39 M42 M24 M43 p0 p1 (bfR p0 p1 m) some (some (.l0 t.prf acc t.flat t.prf pos)):=rfl
   rw [hU]
   unfold T12
   rw [List.take_of_length_le (by omega)] at hb ha
   obtain ⟨y,hy,hp⟩:=qcp acc
   obtain ⟨z,hz,hpz⟩:=qcp ([40,40]++t.prf++[41,41])
   have hyy:=hy.det (fbl_parse d1 (by rw [d2];exact hl) (d5 [] noWord.nil) (by omega) hb (by omega))
   have hzz:=hz.det (by
    have h1:=qev (b:=True) (qev (b:=True) d5) [] noWord.nil
    rw [if_pos trivial,if_pos trivial] at h1
    have e:brW (decide True) (brW (decide True) t.prf)=[40,40]++t.prf++[41,41]:=by simp [brW]
    rw [e] at h1
    exact Df.parse (d:=.bra (.bra D)) d1 (by show D.tree.size≤24;rw [d2];exact hl) h1 (by simp;omega))
   have hDt:(Df.bra (Df.bra D)).tree=D.tree:=rfl
   rw [d2] at hyy
   rw [hDt,d2] at hzz
   subst hyy
   subst hzz
   have hs:=tells_t (sameF_prog (g:=t.flat) hsm) rfl
   simp only [qal,qao,qap,qaa]
   rw [if_neg (by omega),hp,ob_s,if_pos (by omega),if_pos (by simp;omega),hpz,ob_s]
   dsimp only
   rw [if_pos rfl,if_pos rfl,hs,ob_s]
   simp only [cond_true]
   rw [ob_s]
 | succ q ihq=>
   intro pos m acc hq hm hb ha
   obtain ⟨m,rfl⟩:∃ n,m=n+1:=⟨m-1,by omega⟩
   have hU:bfR p0 p1 (m+1) (.l0 t.prf acc t.flat t.prf pos)=T12 Ops.std M38 M40 M39 M42 M24 M43 p0 p1 (bfR p0 p1 m) some (some (.l0 t.prf acc t.flat t.prf pos)):=rfl
   rw [hU]
   unfold T12
   have hlt:pos<t.prf.length:=by omega
   have has:=qc4 t ht (t.prf.getD pos 0) (by rw [List.getD_eq_getElem?_getD,List.getElem?_eq_getElem hlt];exact List.getElem_mem _)
   have hw:IntKind.wrap IntKind.i64 ((pos:Int)+1)=((pos+1:Nat):Int):=qag (by omega)
   have htk:t.prf.take (pos+1)=t.prf.take pos++[t.prf.getD pos 0]:=take_snoc t.prf pos hlt
   have hcs:(t.prf.take pos).countP f5≤t.prf.countP f5:=(List.take_sublist pos t.prf).countP_le
   have nxt:∀ b:List UInt8,b.all blankP=true→b.length≤2→(f5 (t.prf.getD pos 0)=false→b=[])→bfR p0 p1 m (.l0 t.prf (acc++b++[t.prf.getD pos 0]++b) t.flat t.prf (pos+1))=some true:=fun b h1 h2 h3=>by
    refine ihq (pos+1) m _ (by omega) (by omega) ?_ ?_
    ·rw [htk]
     have:=hb.snoc (c:=t.prf.getD pos 0) h1 h1 (fun h=>⟨h3 (f5_free h),h3 (f5_free h)⟩)
     simpa using this
    ·rw [htk,List.countP_append]
     cases hf:f5 (t.prf.getD pos 0) with
     | true=>
       rw [show [t.prf.getD pos 0].countP f5=1 by simp only [List.countP_cons,List.countP_nil,hf,if_true]]
       simp only [List.length_append,List.length_cons,List.length_nil]
       omega
     | false=>
       have:=h3 hf
       subst this
       simp only [List.length_append,List.length_cons,List.length_nil]
       omega
   have hY:=nxt [] rfl (by decide) (fun _=>rfl)
   simp only [hw]
   simp only [qal,qbk,qan,qao,qap,qaa,qah,pieceF hlt,mt]
   rw [if_pos (by omega),if_pos (by omega),if_pos (by omega),if_pos (by omega)]
   refine (condT13 (decide_eq_true (show (pos:Int)≤((pos+1:Nat):Int) by omega))).trans ?_
   by_cases hp1:(pos:Int)<(p1.length:Int)
   ·rw [if_pos hp1]
    obtain ⟨k,hk,hpk⟩:=pickN (p1.getD pos (Ty.dflt ty3)) 4 (by omega) (by omega)
    obtain ⟨b1,b2⟩:=tb_blank13 k hk
    have hpk':M24 (p1.getD pos (Ty.dflt ty3)) 4=some (k:Int):=hpk
    simp only [hpk',ob_s,qah]
    generalize hbt:List.getD ([]::([32]:List UInt8)::([9]:List UInt8)::([10,32]:List UInt8)::[]) k []=bt at b1 b2
    have hX:f5 (t.prf.getD pos 0)=true→bfR p0 p1 m (.l0 t.prf (acc++bt++[t.prf.getD pos 0]++bt) t.flat t.prf (pos+1))=some true:=fun h=>nxt bt b1 b2 (fun h2=>by rw [h] at h2;cases h2)
    have i1:(0:Int)≤(pos:Int)∧(pos:Int)<(p1.length:Int):=by omega
    have i2:(0:Int)≤(k:Int)∧(k:Int)<((4:Nat):Int):=by omega
    have l1:(acc.length+bt.length)*1≤140737488355328:=by omega
    have l2:((acc++bt).length+[t.prf.getD pos 0].length)*1≤140737488355328:=by simp only [List.length_append,List.length_cons,List.length_nil];omega
    have l3:((acc++bt++[t.prf.getD pos 0]).length+bt.length)*1≤140737488355328:=by simp only [List.length_append,List.length_cons,List.length_nil];omega
    have k1:(acc.length+([]:List UInt8).length)*1≤140737488355328:=by simp;omega
    have k2:((acc++[]).length+[t.prf.getD pos 0].length)*1≤140737488355328:=by simp;omega
    have k3:((acc++[]++[t.prf.getD pos 0]).length+([]:List UInt8).length)*1≤140737488355328:=by simp;omega
    simp only [if_pos i1,if_pos i2,if_pos l1,if_pos l2,if_pos l3,if_pos k1,if_pos k2,if_pos k3]
    have br:∀ (c:UInt8) {X Y:Option Bool},(t.prf.getD pos 0=c→X=some true)→Y=some true→cond ([t.prf.getD pos 0] == [c]) X Y=some true:=fun c {X Y} h1 h2=>by
     cases hc:([t.prf.getD pos 0] == [c]) with
     | true=>
       simp only [beq_iff_eq,List.cons.injEq,and_true] at hc
       exact h1 hc
     | false=>exact h2
    refine br 40 (fun h=>hX (by rw [h];rfl)) (br 41 (fun h=>hX (by rw [h];rfl)) (br 91 (fun h=>hX (by rw [h];rfl)) (br 93 (fun h=>hX (by rw [h];rfl)) (br 32 (fun h=>hX (by rw [h];rfl)) ?_))))
    exact hY
   ·rw [if_neg hp1]
    rw [if_pos (by simp;omega),if_pos (by simp;omega),if_pos (by simp;omega)]
    exact hY
theorem plainFormulaBlanks (p0 p1:List Int) (w0:Ty.wf ty22 p0) (w1:Ty.wf ty22 p1):M12 p0 p1=some true:=by
 have hM:M12 p0 p1=T12 Ops.std M38 M40 M39 M42 M24 M43 p0 p1 (bfR p0 p1 1000000) some none:=rfl
 obtain ⟨s,hs,hsl⟩:=formula_ok p0
 obtain ⟨y,hy,hp⟩:=qcp s
 rw [hM]
 unfold T12
 simp only [known13_ok,ob_s,Bool.not_true,cond_false,hs,hp,qao,qa6,qaa]
 by_cases h0:y.1=0
 ·rw [if_neg (fun h=>h h0)]
  rcases hy.good with ⟨_,t,t1,t2,t3,t4⟩ | ⟨h1,_⟩
  ·have hlen:=t.prf_len t1
   have hfl:=t.flat_len
   rw [t2,fprint_prog t1 t4 (by omega),ob_s]
   exact fblanks_l0 t1 t3 ⟨by omega,fun p hp=>by have:=(t4 p hp).1;omega⟩ t.prf.length 0 1000000 [] (by omega) (by omega) rfl (by simp)
  ·exact absurd h0 h1
 ·rw [if_pos h0]
end Go.Proofs.YtkmpkebaloejhaaDoor.Av
