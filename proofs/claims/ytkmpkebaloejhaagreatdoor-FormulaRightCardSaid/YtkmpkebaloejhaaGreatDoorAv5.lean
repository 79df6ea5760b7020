/- One operation of the machine does what the abstract one says: reads,cuts,fields,lengths. Conditions: none. -/
import Derived.Test.YtkmpkebaloejhaaGreatDoorAv4
import Derived.DataElems
namespace Go.Proofs.YtkmpkebaloejhaaGreatDoor.Av
open Go
section
variable {R:Type} {old fz:Nat→Prop} {ρ:Nat→Value} {w:World} {objs:Objs} {r:R} {P:Program} {τ:Nat→Option TI} {B:Ops}
def Reads (P:Program) (fz:Nat→Prop) (ρ:Nat→Value) (w:World) (objs:Objs) (x:Sem Value) (k:AV→Option R) (r:R):Prop:=
 ∃ v V,(∀ w',x.run P w'=.ok V w')∧k v=some r∧AVR fz ρ w objs v V
def ReadsAt (P:Program) (fz:Nat→Prop) (ρ:Nat→Value) (w:World) (objs:Objs) (x:Sem Value) (k:AV→Option R) (r:R) (g:Nat):Prop:=
 ∃ v V,(∀ w',w'.heap[g]?=w.heap[g]?→x.run P w'=.ok V w')∧k v=some r∧AVR fz ρ w objs v V
theorem AtCells.sub {ad:Addr} {cs:List Value} (h:AtCells w ad cs) (off n:Nat):AtCells w (ad.add off) ((cs.drop off).take n):=by
 intro i u hu
 rw [Addr.add_add]
 refine h (off+i) u ?_
 rw [List.getElem?_take] at hu
 split at hu
 ·simpa using hu
 ·cases hu
theorem flat_get {n:Nat}:∀ {css:List (List Value)},(∀ c∈css,c.length=n)→∀ (j:Nat) (c:List Value),css[j]?=some c→∀ i,i<n→css.flatten[j*n+i]?=c[i]?
 | [],_,j,c,hj,_,_=>by simp at hj
 | d::css,h,0,c,hj,i,hi=>by
   simp at hj
   subst hj
   have:=h d List.mem_cons_self
   simp only [List.flatten_cons,Nat.zero_mul,Nat.zero_add]
   rw [List.getElem?_append_left (by omega)]
 | d::css,h,j+1,c,hj,i,hi=>by
   have hd:=h d List.mem_cons_self
   simp only [List.flatten_cons]
   rw [List.getElem?_append_right (by rw [hd,Nat.add_mul];omega)]
   have:(j+1)*n+i-d.length=j*n+i:=by rw [hd,Nat.add_mul];omega
   rw [this]
   exact flat_get (fun c hc=>h c (List.mem_cons_of_mem _ hc)) j c (by simpa using hj) i hi
theorem qba {t:Ty} {xs:List t.den} {css:List (List Value)} (h:All2 (fun x cs=>t.K fz w x cs) xs css):∀ c∈css,c.length=t.sz:=by
 induction xs generalizing css with
 | nil=>cases css with
   | nil=>simp
   | cons=>exact h.elim
 | cons x xs ih=>cases css with
   | nil=>exact h.elim
   | cons d css=>
     intro c hc
     rcases List.mem_cons.1 hc with rfl | hc
     ·exact Ty.K_len fz w t x _ h.1
     ·exact ih h.2 c hc
theorem own_at {t:Ty} {e:Nat} {V:Value} {xs:List t.den} {css:List (List Value)} (hk:All2 (fun x cs=>t.K fz w x cs) xs css) (ho:w.ownsRow 0 e t.sz V xs.length css.flatten) {ad:Addr} {m c:Nat} (hV:V=.slice (some ad) m c) (j:Nat) (x:t.den) (hx:xs[j]?=some x) :
  ∃ cs,t.K fz w x cs∧AtCells w (ad.add (j*t.sz)) cs:=by
 obtain ⟨cs,hc,hkx⟩:=hk.get j x hx
 refine ⟨cs,hkx,fun i u hu=>?_⟩
 have hl:=Ty.K_len fz w t x cs hkx
 have hi:i<t.sz:=by rw [←hl];exact (List.getElem?_eq_some_iff.1 hu).1
 have hf:=flat_get (qba hk) j cs hc i hi
 rw [Addr.add_add]
 rcases ho.2 with ⟨h1,_⟩ | ⟨g,cap,cur,h1,_⟩
 ·rw [hV] at h1;cases h1
 ·rw [hV] at h1
  cases h1
  have:=ho.cells (g:=g) (by rw [hV];rfl) (j*t.sz+i) u (by rw [hf];exact hu)
  exact this
theorem qar (h:OR fz old ρ w objs) {i e:Nat} {t:Ty} {xs:List t.den} (hr:rowOf objs i=some (e,⟨t,xs⟩)) :
  (oget objs i=some (.row e t xs)∨oget objs i=some (.froz e t xs))∧
  ∃ A c,ρ i=.slice A xs.length c∧xs.length≤c∧c≤maxLen∧(xs=[]∨∃ ad,A=some ad∧∀ j x,xs[j]?=some x→∃ cs,t.K fz w x cs∧AtCells w (ad.add (j*t.sz)) cs):=by
 unfold rowOf at hr
 split at hr
 ·rename_i e' t' xs' ho
  cases hr
  refine ⟨.inl ho,?_⟩
  obtain ⟨css,hk,hown,_⟩:=h.obj i _ ho
  rcases hown.2 with ⟨h1,h2⟩ | ⟨g,cap,cur,h1,_,_,h2,h3,_⟩
  ·have:xs=[]:=List.eq_nil_of_length_eq_zero h2
   subst this
   exact ⟨none,0,h1,Nat.le_refl _,by simp [maxLen],.inl rfl⟩
  ·exact ⟨_,cap,h1,h2,h3,.inr ⟨_,rfl,fun j x hx=>own_at hk hown h1 j x hx⟩⟩
 ·rename_i e' t' xs' ho
  cases hr
  refine ⟨.inr ho,?_⟩
  obtain ⟨A,c,hV,hl,hm,hr⟩:=h.obj i _ ho
  simp only [List.cons.injEq,and_true] at hV
  refine ⟨A,c,hV,hl,hm,?_⟩
  rcases hr with hr | ⟨ad,h1,_,h2⟩
  ·exact .inl hr
  ·exact .inr ⟨ad,h1,h2⟩
 ·cases hr
theorem qfe (h:OR fz old ρ w objs) {a:AV} {A:Value} {n:Nat} {l:List CV} (ha:AVR fz ρ w objs a A) (hc:cellsAt objs n a=some l) :
  ∃ ad cs,A=.pointer (some ad)∧AtCells w ad cs∧All2 (CVR fz ρ w objs) l cs∧l.length=n∧∀ u∈cs,u.oneCell'=true:=by
 unfold cellsAt at hc
 split at hc
 ·rename_i i off
  split at hc
  ·rename_i ty cs ho
   cases hb:Nat.ble (off+n) cs.length with
   | false=>simp [hb] at hc
   | true=>
     simp only [hb,cond_true,Option.some.injEq] at hc
     subst hc
     have hle:off+n≤cs.length:=Nat.le_of_ble_eq_true hb
     obtain ⟨g,vs,hV,hh,hall,_,_,h1⟩:=h.obj i _ ho
     simp only [AVR,CVR,ho] at ha
     obtain ⟨g',hg',rfl⟩:=ha
     rw [hV] at hg'
     cases hg'
     refine ⟨_,(vs.toList.drop off).take n,rfl,?_,All2.take n (All2.drop off hall),by simp;omega,fun u hu=>h1 u (by simpa using List.mem_of_mem_drop (List.mem_of_mem_take hu))⟩
     refine AtCells.sub (cs:=vs.toList) (fun i u hu=>?_) off n
     rw [Addr.add_lit,Nat.zero_add,cell_of_row w g i vs ty (0,0) hh]
     simpa using hu
  ·cases hc
 ·rename_i cells
  cases hb:Nat.ble n cells.length with
  | false=>simp [hb] at hc
  | true=>
    simp only [hb,cond_true,Option.some.injEq] at hc
    subst hc
    have hle:n≤cells.length:=Nat.le_of_ble_eq_true hb
    obtain ⟨ad,cs,rfl,hat,_,hall,h1⟩:=ha
    refine ⟨ad,cs.take n,rfl,?_,All2.take n hall,by simp;omega,fun u hu=>h1 u (List.mem_of_mem_take hu)⟩
    have:=AtCells.sub hat 0 n
    rw [Addr.add_zero'] at this
    simpa using this
 ·rename_i i j off
  split at hc
  ·rename_i e t xs hr
   cases hb:Nat.ble (off+n) t.sz with
   | false=>simp [hb] at hc
   | true=>
     simp only [hb,cond_true,Option.some.injEq] at hc
     subst hc
     have hle:off+n≤t.sz:=Nat.le_of_ble_eq_true hb
     obtain ⟨ho,A',c,hV,_,_,hx⟩:=qar h hr
     have he:EltR t xs.length (ρ i) j off A:=by
      rcases ho with ho | ho<;>simpa [AVR,ho] using ha
     obtain ⟨hj,ad,m,c',hV',rfl⟩:=he
     rw [hV] at hV'
     cases hV'
     rcases hx with hx | ⟨ad',he',hx⟩
     ·subst hx;simp at hj
     ·cases he'
      have hget:xs[j]?=some (xs.getD j t.dflt):=by simp [List.getD_eq_getElem?_getD,List.getElem?_eq_getElem hj]
      obtain ⟨cs,hk,hat⟩:=hx j _ hget
      have hl:=Ty.K_len fz w t _ cs hk
      refine ⟨_,(cs.drop off).take n,rfl,?_,All2.take n (All2.drop off (qbc t _ cs hk)),by simp [qck];omega,fun u hu=>Ty.K_one fz w t _ cs hk u (List.mem_of_mem_drop (List.mem_of_mem_take hu))⟩
      rw [←Addr.add_add]
      exact AtCells.sub hat off n
  ·cases hc
 ·cases hc
theorem qbm {t:Nat} {ti:TI} (hti:TiOk P t ti) {ad:Addr} {cs:List Value} {l:List CV} {v:AV} (hat:AtCells w ad cs) (hl:All2 (CVR fz ρ w objs) l cs) (hn:l.length=ti.size) (h1:∀ u∈cs,u.oneCell'=true) (hv:ofCells ti l=some v) :
  ∃ V,(∀ w',AtCells w' ad cs→(loadVar t ad).run P w'=.ok V w')∧AVR fz ρ w objs v V:=by
 unfold ofCells at hv
 have hlen:=hl.length
 cases ha:ti.agg with
 | true=>
   rw [ha] at hv
   simp only [if_true,Option.some.injEq] at hv
   subst hv
   refine ⟨.agg cs.toArray,?_,cs.toArray,rfl,by simpa using hl,by simpa using h1⟩
   intro w' hat
   have:=run_loadCells_list (P:=P) w' ad cs hat
   simp only [loadVar,Sem.run_bind,hti.run_isAgg,Result.andThen_ok,ha,if_true,hti.run_size]
   rw [←hn,hlen,this]
   rfl
 | false=>
   rw [ha] at hv
   simp only [Bool.false_eq_true,if_false] at hv
   split at hv
   ·rename_i x
    cases hv
    cases cs with
    | nil=>exact hl.elim
    | cons u cs=>
      refine ⟨u,?_,hl.1⟩
      intro w' hat
      have h0:=hat 0 u rfl
      rw [Addr.add_zero'] at h0
      simp [loadVar,hti.run_isAgg,ha,h0]
   ·cases hv
theorem qbr:∀ {l:List CV} {ss:List (List UInt8)} {vs:List Value},strCells l=some ss→All2 (CVR fz ρ w objs) l vs→All2 (fun s v=>v=strV s) ss vs
 | [],ss,vs,h,ha=>by
  simp [strCells] at h
  subst h
  cases vs with
  | nil=>trivial
  | cons=>exact ha.elim
 | c::l,ss,vs,h,ha=>by
   cases vs with
   | nil=>exact ha.elim
   | cons v vs=>
     cases c<;>simp [strCells] at h
     cases hs:strCells l with
     | none=>simp [hs] at h
     | some q=>
       simp [hs] at h
       subst h
       exact ⟨ha.1,qbr hs ha.2⟩
theorem qbs {ik:IntKind}:∀ {l:List CV} {ss:List Int} {vs:List Value},intCells ik l=some ss→All2 (CVR fz ρ w objs) l vs→All2 (fun s v=>v=.int ik s) ss vs
 | [],ss,vs,h,ha=>by
  simp [intCells] at h
  subst h
  cases vs with
  | nil=>trivial
  | cons=>exact ha.elim
 | c::l,ss,vs,h,ha=>by
   cases vs with
   | nil=>exact ha.elim
   | cons v vs=>
     cases c<;>simp [intCells] at h
     obtain ⟨rfl,h⟩:=h
     cases hs:intCells ik l with
     | none=>simp [hs] at h
     | some q=>
       simp [hs] at h
       subst h
       exact ⟨ha.1,qbs hs ha.2⟩
theorem aload_ok (hT:TOk P τ) (h:OR fz old ρ w objs) {t:Nat} {a:AV} {A:Value} {k:AV→Option R} (ha:AVR fz ρ w objs a A) (hk:aload τ t a objs k=some r) :
  ∃ ad,A=.pointer (some ad)∧ReadsAt P fz ρ w objs (Instr.loadAt t A) k r ad.block:=by
 unfold aload at hk
 split at hk
 ·rename_i ti hti
  split at hk
  ·rename_i i off n j
   split at hk
   ·rename_i ty cs ho
    cases hc:(Nat.ble (off+n) cs.length && (Nat.beq ti.size 1 && !ti.agg)) with
    | false=>rw [hc] at hk;cases hk
    | true=>
      rw [hc] at hk
      simp only [cond_true] at hk
      simp only [Bool.and_eq_true,Bool.not_eq_true'] at hc
      have hle:off+n≤cs.length:=Nat.le_of_ble_eq_true hc.1
      have hag:=hc.2.2
      obtain ⟨g,vs,hV,hh,hall,_,_,h1⟩:=h.obj i _ ho
      simp only [AVR,ho] at ha
      obtain ⟨g',hg',hj,rfl⟩:=ha
      rw [hV] at hg'
      cases hg'
      have hsub:=All2.take n (All2.drop off hall)
      have hcell:∀ V,((vs.toList.drop off).take n)[j]?=some V→∀ w':World,w'.heap[g]?=w.heap[g]?→(Instr.loadAt t (.pointer (some ((⟨g,0,none⟩:Addr).add (off+j))))).run P w'=.ok V w':=by
       intro V hv w' hw
       have h0:w'.cell? ((⟨g,0,none⟩:Addr).add (off+j))=some V:=by
        rw [Addr.add_lit,Nat.zero_add,cell_of_row w' g (off+j) vs ty (0,0) (hw.trans hh)]
        rw [List.getElem?_take,if_pos hj,List.getElem?_drop,Array.getElem?_toList] at hv
        exact hv
       simp [Instr.loadAt,Instr.sureAddr,loadVar,(hT t ti hti).run_isAgg,hag,h0]
      have hlen:((cs.drop off).take n).length=n:=by simp;omega
      have hblk:((⟨g,0,none⟩:Addr).add (off+j)).block=g:=qa1 _ _
      refine ⟨_,rfl,?_⟩
      rw [hblk]
      split at hk
      ·rename_i ss hss
       have hss':=qbr hss hsub
       have hl2:=hss'.length
       have hl3:=hsub.length
       obtain ⟨V,hV1,hV2⟩:=hss'.get j (ss.getD j []) (by simp [List.getD_eq_getElem?_getD,List.getElem?_eq_getElem (show j<ss.length by omega)])
       exact ⟨_,V,fun w' hw=>hcell V hV1 w' hw,hk,hV2⟩
      ·split at hk
       ·rename_i ns hns
        have hss':=qbs hns hsub
        have hl2:=hss'.length
        have hl3:=hsub.length
        obtain ⟨V,hV1,hV2⟩:=hss'.get j (ns.getD j 0) (by simp [List.getD_eq_getElem?_getD,List.getElem?_eq_getElem (show j<ns.length by omega)])
        exact ⟨_,V,fun w' hw=>hcell V hV1 w' hw,hk,hV2⟩
       ·cases hk
   ·cases hk
  ·split at hk
   ·rename_i l hl
    split at hk
    ·rename_i v hv
     obtain ⟨ad,cs,rfl,hat,hall,hn,h1⟩:=qfe h ha hl
     obtain ⟨V,hr,hV⟩:=qbm (hT t ti hti) hat hall hn h1 hv
     exact ⟨ad,rfl,v,V,fun w' hw=>by simp [Instr.loadAt,Instr.sureAddr,hr w' (hat.mono hw)],hk,hV⟩
    ·cases hk
   ·cases hk
 ·cases hk
theorem qbi (hB:B.ok) {j:Int} {n:Nat} (h:B.inb j n=true):0≤j∧j<n:=by
 unfold Ops.inb at h
 rw [hB.lt,hB.lt] at h
 by_cases h0:j<0
 ·simp [h0] at h
 ·simp [h0] at h
  exact ⟨by omega,h⟩
theorem qa5 (hT:TOk P τ) {t n:Nat} (h:Nat.beq (elemSize τ t) n=true) (hn:0<n):∃ e,P.underlying t=some (.slice e)∧∀ w:World,(sizeOf e).run P w=.ok n w:=by
 have he:=Nat.eq_of_beq_eq_true h
 unfold elemSize at he
 split at he
 ·rename_i e a1 a2 a3 a4 a5 a6 a7 ht
  split at he
  ·rename_i te hte
   refine ⟨e,(hT t _ ht).kind,fun w=>?_⟩
   rw [(hT e te hte).run_size,he]
  ·omega
 ·omega
theorem isStr_ok (hT:TOk P τ) {t:Nat} (h:isStr τ t=true):P.underlying t=some .string:=by
 unfold isStr at h
 split at h
 ·rename_i ht
  exact (hT t _ ht).kind
 ·cases h
theorem qbd (hT:TOk P τ) {t:Nat} (h:isSlice τ t=true):∃ e,P.underlying t=some (.slice e):=by
 unfold isSlice at h
 split at h
 ·rename_i ht
  exact ⟨_,(hT t _ ht).kind⟩
 ·cases h
theorem Ty.sz_pos:∀ t:Ty,0<t.sz
 | .int _=>Nat.one_pos
 | .bool=>Nat.one_pos
 | .str=>Nat.one_pos
 | .list _ _=>Nat.one_pos
 | .pair a b=>by have:=Ty.sz_pos a;simp only [Ty.sz];omega
theorem cutAt_ok (hB:B.ok) {len:Nat} {lo hi:Option AV} {LO HI:Option Value} {k:Nat→Nat→Option R}
  (hlo:∀ x,lo=some x→∃ X,LO=some X∧AVR fz ρ w objs x X) (hlo':lo=none→LO=none)
  (hhi:∀ x,hi=some x→∃ X,HI=some X∧AVR fz ρ w objs x X) (hhi':hi=none→HI=none)
  (h:cutAt B len lo hi k=some r):∃ l hh,k l hh=some r∧l≤hh∧hh≤len∧
    ∀ (s:Bool) (cap:Nat),len≤cap→(s=false→cap=len)→∀ w,(Instr.sliceBounds s len cap LO HI none).run P w=.ok (l,hh,cap) w:=by
 unfold cutAt at h
 simp only at h
 split at h
 ·rename_i kz z
  obtain ⟨X,rfl,hX⟩:=hhi _ rfl
  have hX:X=.int kz z:=hX
  subst hX
  split at h
  ·rename_i hl0
   rw [hlo' rfl]
   cases hb:B.inb z (len+1) with
   | false=>simp [hb] at h
   | true=>
     simp only [hb,cond_true] at h
     obtain ⟨h0,h1⟩:=qbi hB hb
     refine ⟨0,z.toNat,h,Nat.zero_le _,by omega,fun s cap hc _ w=>?_⟩
     simp [Instr.sliceBounds,Instr.sliceBound,asIntOf,h0,show z≤(cap:Int) by omega]
  ·rename_i kl l
   obtain ⟨Y,rfl,hY⟩:=hlo _ rfl
   have hY:Y=.int kl l:=hY
   subst hY
   cases hb:B.inb z (len+1) with
   | false=>simp [hb] at h
   | true=>
     obtain ⟨h0,h1⟩:=qbi hB hb
     simp only [hb,cond_true,Ops.le,hB.lt] at h
     by_cases c1:l<0
     ·simp [c1] at h
     ·by_cases c2:z<l
      ·simp [c1,c2] at h
      ·simp [c1,c2] at h
       refine ⟨l.toNat,z.toNat,h,by omega,by omega,fun s cap hc _ w=>?_⟩
       simp [Instr.sliceBounds,Instr.sliceBound,asIntOf,h0,show z≤(cap:Int) by omega,show 0≤l by omega,show l≤z by omega]
       intro hm
       omega
  ·cases h
 ·rw [hhi' rfl]
  split at h
  ·rw [hlo' rfl]
   exact ⟨0,len,h,Nat.zero_le _,Nat.le_refl _,fun s cap hc _ w=>by simp [Instr.sliceBounds]⟩
  ·rename_i kl l
   obtain ⟨Y,rfl,hY⟩:=hlo _ rfl
   have hY:Y=.int kl l:=hY
   subst hY
   cases hb:B.inb l (len+1) with
   | false=>simp [hb] at h
   | true=>
     simp only [hb,cond_true] at h
     obtain ⟨h0,h1⟩:=qbi hB hb
     refine ⟨l.toNat,len,h,by omega,Nat.le_refl _,fun s cap hc _ w=>?_⟩
     simp [Instr.sliceBounds,Instr.sliceBound,asIntOf,h0,show l≤(len:Int) by omega]
  ·cases h
 ·cases h
theorem cutAt_ok_max (hB:B.ok) {len:Nat} {lo:Option AV} {LO:Option Value} {m:Int} {k:Nat→Nat→Option R}
  (hlo:∀ x,lo=some x→∃ X,LO=some X∧AVR fz ρ w objs x X) (hlo':lo=none→LO=none)
  (h:cutAt B len lo (some (.c (.int .i64 m))) k=some r):∃ l hh,k l hh=some r∧l≤hh∧hh≤len∧
    ∀ (cap:Nat),len≤cap→∀ w,(Instr.sliceBounds true len cap LO (some (.int .i64 m)) (some (.int .i64 m))).run P w=.ok (l,hh,hh) w:=by
 unfold cutAt at h
 simp only at h
 split at h
 ·rw [hlo' rfl]
  cases hb:B.inb m (len+1) with
  | false=>simp [hb] at h
  | true=>
    simp only [hb,cond_true] at h
    obtain ⟨h0,h1⟩:=qbi hB hb
    refine ⟨0,m.toNat,h,Nat.zero_le _,by omega,fun cap hc w=>?_⟩
    simp [Instr.sliceBounds,Instr.sliceBound,asIntOf,h0,show m≤(cap:Int) by omega]
    intro hm
    omega
 ·rename_i kl l
  obtain ⟨Y,rfl,hY⟩:=hlo _ rfl
  have hY:Y=.int kl l:=hY
  subst hY
  cases hb:B.inb m (len+1) with
  | false=>simp [hb] at h
  | true=>
    obtain ⟨h0,h1⟩:=qbi hB hb
    simp only [hb,cond_true,Ops.le,hB.lt] at h
    by_cases c1:l<0
    ·simp [c1] at h
    ·by_cases c2:m<l
     ·simp [c1,c2] at h
     ·simp [c1,c2] at h
      refine ⟨l.toNat,m.toNat,h,by omega,by omega,fun cap hc w=>?_⟩
      have e1:0≤m∧m≤(cap:Int):=⟨h0,by omega⟩
      have e2:0≤m∧m≤((m.toNat:Nat):Int):=⟨h0,by omega⟩
      have e3:0≤l∧l≤((m.toNat:Nat):Int):=⟨by omega,by omega⟩
      simp only [Instr.sliceBounds,Instr.sliceBound,asIntOf,Sem.run_bind,Sem.run_pure,Result.andThen_ok,Sem.run_ite,if_pos e1,if_pos e2,if_pos e3]
 ·cases h
theorem rowK_sub {t:Ty} {xs:List t.den} {A:Option Addr} (hx:xs=[]∨∃ ad,A=some ad∧fz ad.block∧∀ j x,xs[j]?=some x→∃ cs,t.K fz w x cs∧AtCells w (ad.add (j*t.sz)) cs) {l h cap:Nat} (hlh:l≤h) (hh:h≤xs.length) (hc:xs.length≤cap) :
  ((xs.take h).drop l=[]∨∃ ad,(if cap=l then A else A.map (·.add (l*t.sz)))=some ad∧fz ad.block∧∀ j x,((xs.take h).drop l)[j]?=some x→∃ cs,t.K fz w x cs∧AtCells w (ad.add (j*t.sz)) cs):=by
 by_cases he:(xs.take h).drop l=[]
 ·exact .inl he
 ·rcases hx with hx | ⟨ad,rfl,hb,hx⟩
  ·subst hx;simp at he
  ·have hlt:l<h:=by
    rcases Nat.lt_or_ge l h with h1 | h1
    ·exact h1
    ·exfalso;apply he;apply List.drop_eq_nil_of_le;simp;omega
   refine .inr ⟨ad.add (l*t.sz),by rw [if_neg (by omega)];rfl,by rw [qa1];exact hb,fun j x hj=>?_⟩
   rw [List.getElem?_drop,List.getElem?_take] at hj
   split at hj
   ·obtain ⟨cs,h1,h2⟩:=hx (l+j) x hj
    refine ⟨cs,h1,?_⟩
    rw [Addr.add_add,←Nat.add_mul]
    exact h2
   ·cases hj
theorem qff {a:AV} {V:Value} (h:isZ a=true) (ha:AVR fz ρ w objs a V):V=.int .i64 0:=by
 unfold isZ at h
 split at h
 ·have:=of_decide_eq_true h
  subst this
  exact ha
 ·cases h
theorem aslice_ok (hB:B.ok) (hT:TOk P τ) (h:OR fz old ρ w objs) {t:Nat} {x:AV} {X:Value} {lo hi mx:Option AV} {LO HI MX:Option Value} {k:AV→Option R} (hx:AVR fz ρ w objs x X)
  (hlo:∀ x,lo=some x→∃ X,LO=some X∧AVR fz ρ w objs x X) (hlo':lo=none→LO=none)
  (hhi:∀ x,hi=some x→∃ X,HI=some X∧AVR fz ρ w objs x X) (hhi':hi=none→HI=none)
  (hmx:∀ x,mx=some x→∃ X,MX=some X∧AVR fz ρ w objs x X) (hmx':mx=none→MX=none)
  (hk:aslice τ B t x lo hi mx objs k=some r):Reads P fz ρ w objs (Instr.sliceAt t X LO HI MX) k r:=by
 unfold aslice at hk
 split at hk
 ·rename_i s
  have hX:X=strV s:=hx
  subst hX
  rw [hmx' rfl]
  cases hs:isStr τ t with
  | false=>simp [hs] at hk
  | true=>
    simp only [hs,cond_true] at hk
    obtain ⟨l,hh,hk,h1,h2,h3⟩:=cutAt_ok (P:=P) hB hlo hlo' hhi hhi' hk
    have h3:=h3 false s.length (Nat.le_refl _) (fun _=>rfl)
    refine ⟨_,strV ((s.take hh).drop l),?_,hk,rfl⟩
    have hu:=isStr_ok hT hs
    have hz:(⟨s.toArray⟩:ByteArray).size=s.length:=by simp [ByteArray.size]
    intro w';simp only [Instr.sliceAt,Sem.run_bind,run_underlying hu,Result.andThen_ok,Instr.slice,strV,hz,Option.isSome_none,Bool.false_eq_true,if_false,h3,Sem.run_pure]
    congr 2
    apply ByteArray.ext
    rw [ByteArray.data_extract]
    apply Array.ext'
    simp [Array.toList_extract,List.extract_eq_take_drop,List.drop_take]
 ·rename_i e ty xs
  obtain ⟨A,c,hV,hl,hm,hr⟩:=hx
  simp only [List.cons.injEq,and_true] at hV
  subst hV
  rw [hmx' rfl]
  cases hs:Nat.beq (elemSize τ t) ty.sz with
  | false=>simp [hs] at hk
  | true=>
    simp only [hs,cond_true] at hk
    obtain ⟨l,hh,hk,h1,h2,h3⟩:=cutAt_ok (P:=P) hB hlo hlo' hhi hhi' hk
    have h3:=h3 true c hl (fun h=>by cases h)
    obtain ⟨e',hu,hsz⟩:=qa5 hT hs ty.sz_pos
    refine ⟨_,.slice (if c=l then A else A.map (·.add (l*ty.sz))) (hh-l) (c-l),?_,hk,?_⟩
    ·intro w';simp only [Instr.sliceAt,Sem.run_bind,run_underlying hu,Result.andThen_ok,Instr.slice,h3,hsz,Sem.run_pure]
    ·refine ⟨_,c-l,by simp [List.length_drop,List.length_take,Nat.min_eq_left h2],by simp;omega,by omega,rowK_sub hr h1 h2 hl⟩
 ·rename_i e ty bb mm
  obtain ⟨A,c,hV,hm,hr⟩:=hx
  subst hV
  cases hs:(isZ mm && (isZZ lo hi && Nat.beq (elemSize τ t) ty.sz)) with
  | false=>simp [hs] at hk
  | true=>
    simp only [hs,cond_true] at hk
    simp only [Bool.and_eq_true] at hs
    obtain ⟨hz,hzz,hs⟩:=hs
    obtain ⟨M,rfl,hM⟩:=hmx _ rfl
    have hM:M=.int .i64 0:=qff hz hM
    subst hM
    simp only [isZZ,Bool.and_eq_true] at hzz
    obtain ⟨hzh,hzl⟩:=hzz
    have hH:HI=some (.int .i64 0):=by
     cases hi with
     | none=>simp at hzh
     | some y=>obtain ⟨Y,rfl,hY⟩:=hhi _ rfl;rw [qff hzh hY]
    have hL:LO=none∨LO=some (.int .i64 0):=by
     cases lo with
     | none=>exact .inl (hlo' rfl)
     | some y=>obtain ⟨Y,rfl,hY⟩:=hlo _ rfl;right;rw [qff hzl hY]
    obtain ⟨e',hu,hsz⟩:=qa5 hT hs ty.sz_pos
    refine ⟨_,.slice A 0 0,?_,hk,A,rfl⟩
    intro w'
    have h3:∀ w,(Instr.sliceBounds true 0 c LO HI (some (.int .i64 0))).run P w=.ok (0,0,0) w:=by
     intro w
     rw [hH]
     rcases hL with rfl | rfl<;>simp [Instr.sliceBounds,Instr.sliceBound,asIntOf]
    simp [Instr.sliceAt,Sem.run_bind,run_underlying hu,Result.andThen_ok,Instr.slice,h3,hsz,Sem.run_pure]
 ·rename_i e ty xs mm
  obtain ⟨A,c,hV,hl,hm,hr⟩:=hx
  simp only [List.cons.injEq,and_true] at hV
  subst hV
  cases hs:(isZ mm && (isZZ lo hi && Nat.beq (elemSize τ t) ty.sz)) with
  | false=>simp [hs] at hk
  | true=>
    simp only [hs,cond_true] at hk
    simp only [Bool.and_eq_true] at hs
    obtain ⟨hz,hzz,hs⟩:=hs
    obtain ⟨M,rfl,hM⟩:=hmx _ rfl
    have hM:M=.int .i64 0:=qff hz hM
    subst hM
    simp only [isZZ,Bool.and_eq_true] at hzz
    obtain ⟨hzh,hzl⟩:=hzz
    have hH:HI=some (.int .i64 0):=by
     cases hi with
     | none=>simp at hzh
     | some y=>obtain ⟨Y,rfl,hY⟩:=hhi _ rfl;rw [qff hzh hY]
    have hL:LO=none∨LO=some (.int .i64 0):=by
     cases lo with
     | none=>exact .inl (hlo' rfl)
     | some y=>obtain ⟨Y,rfl,hY⟩:=hlo _ rfl;right;rw [qff hzl hY]
    obtain ⟨e',hu,hsz⟩:=qa5 hT hs ty.sz_pos
    refine ⟨_,.slice A 0 0,?_,hk,A,rfl⟩
    intro w'
    have h3:∀ w,(Instr.sliceBounds true xs.length c LO HI (some (.int .i64 0))).run P w=.ok (0,0,0) w:=by
     intro w
     rw [hH]
     rcases hL with rfl | rfl<;>simp [Instr.sliceBounds,Instr.sliceBound,asIntOf]
    simp [Instr.sliceAt,Sem.run_bind,run_underlying hu,Result.andThen_ok,Instr.slice,h3,hsz,Sem.run_pure]
 ·rename_i i
  rw [hmx' rfl]
  split at hk
  ·rename_i e ty xs hrow
   obtain ⟨ho,A,c,hV,hl,hm,hr⟩:=qar h hrow
   have hX:X=ρ i:=by
    rcases ho with ho | ho<;>simpa [AVR,CVR,ho] using hx
   cases hs:Nat.beq (elemSize τ t) ty.sz with
   | false=>simp [hs] at hk
   | true=>
     simp only [hs,cond_true] at hk
     obtain ⟨l,hh,hk,h1,h2,h3⟩:=cutAt_ok (P:=P) hB hlo hlo' hhi hhi' hk
     have h3:=h3 true c hl (fun h=>by cases h)
     obtain ⟨e',hu,hsz⟩:=qa5 hT hs ty.sz_pos
     refine ⟨_,.slice (if c=l then A else A.map (·.add (l*ty.sz))) (hh-l) (c-l),?_,hk,?_⟩
     ·rw [hX,hV]
      intro w';simp only [Instr.sliceAt,Sem.run_bind,run_underlying hu,Result.andThen_ok,Instr.slice,h3,hsz,Sem.run_pure]
     ·have hview:ViewR ty xs.length (ρ i) l hh false (.slice (if c=l then A else A.map (·.add (l*ty.sz))) (hh-l) (c-l)):=
       ⟨h2,h1,A,xs.length,c,c-l,hV,by simp,by omega,by simp⟩
      rcases ho with ho | ho<;>simpa [AVR,ho] using hview
  ·cases hk
 ·rename_i i m
  obtain ⟨MX',rfl,hM⟩:=hmx _ rfl
  have hM:MX'=.int .i64 m:=hM
  subst hM
  split at hk
  ·rename_i e ty xs h' hrow
   obtain ⟨H',rfl,hH⟩:=hhi _ rfl
   have hH:H'=.int .i64 h':=hH
   subst hH
   obtain ⟨ho,A,c,hV,hl,hm,hr⟩:=qar h hrow
   have hX:X=ρ i:=by
    rcases ho with ho | ho<;>simpa [AVR,CVR,ho] using hx
   cases hs:Nat.beq (elemSize τ t) ty.sz with
   | false=>simp [hs] at hk
   | true=>
     simp only [hs,cond_true] at hk
     cases he:B.eq m h' with
     | false=>simp [he] at hk
     | true=>
       have hmh:m=h':=by rw [hB.eq] at he;simpa using he
       subst hmh
       simp only [he,cond_true] at hk
       obtain ⟨l,hh,hk,h1,h2,h3⟩:=cutAt_ok_max (P:=P) hB hlo hlo' hk
       have h3:=h3 c hl
       obtain ⟨e',hu,hsz⟩:=qa5 hT hs ty.sz_pos
       refine ⟨_,.slice (if hh=l then A else A.map (·.add (l*ty.sz))) (hh-l) (hh-l),?_,hk,?_⟩
       ·rw [hX,hV]
        intro w';simp only [Instr.sliceAt,Sem.run_bind,run_underlying hu,Result.andThen_ok,Instr.slice,h3,hsz,Sem.run_pure]
       ·have hview:ViewR ty xs.length (ρ i) l hh true (.slice (if hh=l then A else A.map (·.add (l*ty.sz))) (hh-l) (hh-l)):=
         ⟨h2,h1,A,xs.length,c,hh-l,hV,by simp,by omega,by simp⟩
        rcases ho with ho | ho<;>simpa [AVR,ho] using hview
  ·cases hk
 ·cases hk
theorem aindexAddr_ok (hB:B.ok) (hT:TOk P τ) (h:OR fz old ρ w objs) {t:Nat} {x ix:AV} {X IX:Value} {k:AV→Option R} (hx:AVR fz ρ w objs x X) (hi:AVR fz ρ w objs ix IX)
  (hk:aindexAddr τ B t x ix objs k=some r):Reads P fz ρ w objs (Instr.indexAt t X IX) k r:=by
 unfold aindexAddr at hk
 split at hk
 ·rename_i ik j
  have hI:IX=.int ik j:=hi
  subst hI
  split at hk
  ·rename_i e ty xs
   obtain ⟨A,c,hV,hl,hm,hr⟩:=hx
   simp only [List.cons.injEq,and_true] at hV
   subst hV
   cases hs:Nat.beq (elemSize τ t) ty.sz with
   | false=>simp [hs] at hk
   | true=>
     cases hb:B.inb j xs.length with
     | false=>simp [hs,hb] at hk
     | true=>
       simp only [hs,hb,cond_true] at hk
       obtain ⟨h0,h1⟩:=qbi hB hb
       obtain ⟨e',hu,hsz⟩:=qa5 hT hs ty.sz_pos
       rcases hr with hr | ⟨ad,rfl,hbk,hx⟩
       ·subst hr;simp at h1;omega
       ·have hjn:j.toNat<xs.length:=by omega
        obtain ⟨cs,hK,hat⟩:=hx j.toNat (xs.getD j.toNat ty.dflt) (by simp [List.getD_eq_getElem?_getD,List.getElem?_eq_getElem hjn])
        refine ⟨_,.pointer (some (ad.add (j.toNat*ty.sz))),?_,hk,_,cs,rfl,hat,by rw [qa1];exact hbk,qbc _ _ _ hK,Ty.K_one fz w _ _ cs hK⟩
        intro w';simp [Instr.indexAt,asIntOf,run_underlying hu,h0,h1,hsz]
  ·rename_i i
   split at hk
   ·rename_i e ty xs hrow
    obtain ⟨ho,A,c,hV,hl,hm,hr⟩:=qar h hrow
    have hX:X=ρ i:=by
     rcases ho with ho | ho<;>simpa [AVR,CVR,ho] using hx
    cases hs:Nat.beq (elemSize τ t) ty.sz with
    | false=>simp [hs] at hk
    | true=>
      cases hb:B.inb j xs.length with
      | false=>simp [hs,hb] at hk
      | true=>
        simp only [hs,hb,cond_true] at hk
        obtain ⟨h0,h1⟩:=qbi hB hb
        obtain ⟨e',hu,hsz⟩:=qa5 hT hs ty.sz_pos
        rcases hr with hr | ⟨ad,rfl,hx⟩
        ·subst hr;simp at h1;omega
        ·refine ⟨_,.pointer (some (ad.add (j.toNat*ty.sz))),?_,hk,?_⟩
         ·rw [hX,hV]
          intro w';simp [Instr.indexAt,asIntOf,run_underlying hu,h0,h1,hsz]
         ·have he:EltR ty xs.length (ρ i) j.toNat 0 (.pointer (some (ad.add (j.toNat*ty.sz)))):=⟨by omega,ad,xs.length,c,hV,by simp⟩
          rcases ho with ho | ho<;>simpa [AVR,ho] using he
   ·cases hk
  ·rename_i i off
   split at hk
   ·rename_i n e a1 a2 a3 a4 a5 a6 a7 ty cs ht ho
    have hu:=(hT t _ ht).kind
    split at hk
    ·rename_i te hte
     cases hs:Nat.beq te.size 1 with
     | false=>simp [hs] at hk
     | true=>
       cases hb:B.inb j n with
       | false=>simp [hs,hb] at hk
       | true=>
         simp only [hs,hb,cond_true] at hk
         obtain ⟨h0,h1⟩:=qbi hB hb
         have hs1:te.size=1:=Nat.eq_of_beq_eq_true hs
         simp only [AVR,CVR,ho] at hx
         obtain ⟨g,hg,rfl⟩:=hx
         refine ⟨_,.pointer (some (((⟨g,0,none⟩:Addr).add off).add (j.toNat*1))),?_,hk,?_⟩
         ·intro w'
          have h2:0≤j∧j<(n:Int):=⟨h0,h1⟩
          simp [Instr.indexAt,asIntOf,run_underlying hu,Instr.sureAddr,h0,h1,(hT e te hte).run_size,hs1]
         ·simp only [AVR,ho]
          exact ⟨g,hg,by omega,by rw [Addr.add_add];simp⟩
    ·cases hk
   ·cases hk
  ·rename_i i lo hi' tight
   split at hk
   ·rename_i e ty xs hrow
    obtain ⟨ho,A,c,hV,hl,hm,hr⟩:=qar h hrow
    have hX:ViewR ty xs.length (ρ i) lo hi' tight X:=by
     rcases ho with ho | ho<;>simpa [AVR,ho] using hx
    obtain ⟨v1,v2,A',m',c1,c2,hV',hc2,v3,rfl⟩:=hX
    rw [hV] at hV'
    cases hV'
    cases hs:Nat.beq (elemSize τ t) ty.sz with
    | false=>simp [hs] at hk
    | true=>
      cases hb:B.inb j (hi'-lo) with
      | false=>simp [hs,hb] at hk
      | true=>
        simp only [hs,hb,cond_true] at hk
        obtain ⟨h0,h1⟩:=qbi hB hb
        obtain ⟨e',hu,hsz⟩:=qa5 hT hs ty.sz_pos
        rcases hr with hr | ⟨ad,rfl,hx⟩
        ·subst hr;simp at v1;omega
        ·have hne:¬ (if tight=true then hi' else c)=lo:=by split<;>omega
         refine ⟨_,.pointer (some (ad.add ((lo+j.toNat)*ty.sz))),?_,hk,?_⟩
         ·rw [if_neg hne]
          intro w';simp only [Option.map_some,Instr.indexAt,Sem.run_bind,asIntOf,Sem.run_pure,Result.andThen_ok,run_underlying hu]
          have:0≤j∧j<((hi'-lo:Nat):Int):=⟨h0,h1⟩
          simp only [Sem.run_ite,if_pos this,Sem.run_bind,hsz,Result.andThen_ok,Sem.run_pure,Addr.add_add,←Nat.add_mul]
         ·have he:EltR ty xs.length (ρ i) (lo+j.toNat) 0 (.pointer (some (ad.add ((lo+j.toNat)*ty.sz)))):=⟨by omega,ad,xs.length,c,hV,by simp⟩
          rcases ho with ho | ho<;>simpa [AVR,ho] using he
   ·cases hk
  ·rename_i l
   obtain ⟨ad,cs,rfl,hat,hf,hl,h1c⟩:=hx
   split at hk
   ·rename_i n e a1 a2 a3 a4 a5 a6 a7 ht
    have hu:=(hT t _ ht).kind
    split at hk
    ·rename_i te hte
     cases hs:Nat.beq te.size 1 && Nat.beq n l.length with
     | false=>simp [hs] at hk
     | true=>
       simp only [hs,cond_true] at hk
       simp only [Bool.and_eq_true] at hs
       have hs1:te.size=1:=Nat.eq_of_beq_eq_true hs.1
       have hn:n=l.length:=Nat.eq_of_beq_eq_true hs.2
       have hlen:=hl.length
       have hrun:0≤j→j<(n:Int)→∀ w',(Instr.indexAt t (.pointer (some ad)) (.int ik j)).run P w'=.ok (.pointer (some (ad.add (j.toNat*1)))) w':=fun h0 h1 w'=>by
        have h2:0≤j∧j<(n:Int):=⟨h0,h1⟩
        simp [Instr.indexAt,asIntOf,run_underlying hu,Instr.sureAddr,h0,h1,(hT e te hte).run_size,hs1]
       have hone:∀ (c:CV) (V:Value),cs[j.toNat]?=some V→CVR fz ρ w objs c V→AVR fz ρ w objs (.eltv [c]) (.pointer (some (ad.add (j.toNat*1)))):=fun c V hV hc=>
        ⟨_,[V],rfl,fun i u hu=>by
          cases i with
          | zero=>
            simp at hu
            subst hu
            have:=hat j.toNat V hV
            simpa [Addr.add_add] using this
          | succ i=>simp at hu,by rw [qa1];exact hf,⟨hc,trivial⟩,fun u hu=>by
            simp at hu
            subst hu
            exact h1c _ (List.mem_of_getElem? hV)⟩
       split at hk
       ·rename_i ss hss
        cases hb:B.inb j n with
        | false=>simp [hb] at hk
        | true=>
          simp only [hb,cond_true] at hk
          obtain ⟨h0,h1⟩:=qbi hB hb
          have hss':=qbr hss hl
          have hl2:=hss'.length
          have hj:j.toNat<ss.length:=by omega
          obtain ⟨V,hV,hVe⟩:=hss'.get j.toNat (ss.getD j.toNat []) (by simp [List.getD_eq_getElem?_getD,List.getElem?_eq_getElem hj])
          exact ⟨_,_,hrun h0 h1,hk,hone _ V hV hVe⟩
       ·split at hk
        ·rename_i ns hns
         cases hb:B.inb j n with
         | false=>simp [hb] at hk
         | true=>
           simp only [hb,cond_true] at hk
           obtain ⟨h0,h1⟩:=qbi hB hb
           have hss':=qbs hns hl
           have hl2:=hss'.length
           have hj:j.toNat<ns.length:=by omega
           obtain ⟨V,hV,hVe⟩:=hss'.get j.toNat (ns.getD j.toNat 0) (by simp [List.getD_eq_getElem?_getD,List.getElem?_eq_getElem hj])
           exact ⟨_,_,hrun h0 h1,hk,hone _ V hV hVe⟩
        ·cases hk
    ·cases hk
   ·cases hk
  ·cases hk
 ·cases hk
theorem alen_ok (hT:TOk P τ) (h:OR fz old ρ w objs) {t ty':Nat} {x:AV} {X:Value} {k:AV→Option R} (hx:AVR fz ρ w objs x X) (hk:alen τ t x objs k=some r) :
  Reads P fz ρ w objs (Builtin.len_ #[t] ty' #[X]) k r:=by
 unfold alen at hk
 split at hk
 ·rename_i s
  have hX:X=strV s:=hx
  subst hX
  cases hs:isStr τ t with
  | false=>simp [hs] at hk
  | true=>
    simp only [hs,cond_true] at hk
    refine ⟨_,.int .i64 s.length,?_,hk,rfl⟩
    have hz:(⟨s.toArray⟩:ByteArray).size=s.length:=by simp [ByteArray.size]
    intro w';simp [Builtin.len_,run_underlying (isStr_ok hT hs),strV,goInt,hz]
 ·rename_i e ty xs
  obtain ⟨A,c,hV,hl,hm,hr⟩:=hx
  simp only [List.cons.injEq,and_true] at hV
  subst hV
  cases hs:isSlice τ t with
  | false=>simp [hs] at hk
  | true=>
    simp only [hs,cond_true] at hk
    obtain ⟨e',hu⟩:=qbd hT hs
    exact ⟨_,.int .i64 xs.length,fun w'=>by simp [Builtin.len_,run_underlying hu,goInt],hk,rfl⟩
 ·have hX:X=.slice none 0 0:=hx
  subst hX
  cases hs:isSlice τ t with
  | false=>simp [hs] at hk
  | true=>
    simp only [hs,cond_true] at hk
    obtain ⟨e',hu⟩:=qbd hT hs
    exact ⟨_,.int .i64 0,fun w'=>by simp [Builtin.len_,run_underlying hu,goInt],hk,rfl⟩
 ·obtain ⟨A,rfl⟩:=hx
  cases hs:isSlice τ t with
  | false=>simp [hs] at hk
  | true=>
    simp only [hs,cond_true] at hk
    obtain ⟨e',hu⟩:=qbd hT hs
    exact ⟨_,.int .i64 0,fun w'=>by simp [Builtin.len_,run_underlying hu,goInt],hk,rfl⟩
 ·obtain ⟨A,c,rfl,_⟩:=hx
  cases hs:isSlice τ t with
  | false=>simp [hs] at hk
  | true=>
    simp only [hs,cond_true] at hk
    obtain ⟨e',hu⟩:=qbd hT hs
    exact ⟨_,.int .i64 0,fun w'=>by simp [Builtin.len_,run_underlying hu,goInt],hk,rfl⟩
 ·rename_i i
  split at hk
  ·rename_i e ty xs hrow
   obtain ⟨ho,A,c,hV,hl,hm,hr⟩:=qar h hrow
   have hX:X=ρ i:=by
    rcases ho with ho | ho<;>simpa [AVR,CVR,ho] using hx
   cases hs:isSlice τ t with
   | false=>simp [hs] at hk
   | true=>
     simp only [hs,cond_true] at hk
     obtain ⟨e',hu⟩:=qbd hT hs
     exact ⟨_,.int .i64 xs.length,fun w'=>by rw [hX,hV];simp [Builtin.len_,run_underlying hu,goInt],hk,rfl⟩
  ·cases hk
 ·rename_i i lo hi' tight
  split at hk
  ·rename_i p hrow
   obtain ⟨e,ty,xs⟩:=p
   obtain ⟨ho,A,c,hV,hl,hm,hr⟩:=qar h hrow
   have hX:ViewR ty xs.length (ρ i) lo hi' tight X:=by
    rcases ho with ho | ho<;>simpa [AVR,ho] using hx
   obtain ⟨v1,v2,A',m',c1,c2,hV',hc2,v3,rfl⟩:=hX
   cases hs:isSlice τ t with
   | false=>simp [hs] at hk
   | true=>
     simp only [hs,cond_true] at hk
     obtain ⟨e',hu⟩:=qbd hT hs
     exact ⟨_,.int .i64 (hi'-lo:Nat),fun w'=>by simp [Builtin.len_,run_underlying hu,goInt],hk,rfl⟩
  ·cases hk
 ·cases hk
end
end Go.Proofs.YtkmpkebaloejhaaGreatDoor.Av
