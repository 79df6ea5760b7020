/- strconv.Itoa of numbers below 1000. Conditions: none. -/
import Derived.Test.YtkmpkebaloejhaaGreatDoorGen0
import Derived.Shelf.Strconv.Itoa3
import Derived.KernelRfl
namespace Go.Proofs
open Go.Shelf
def Tryz.lays171_ren:Go.Shelf.Ren:=⟨fun | 171=>102 | 243=>123 | 246=>131 | 283=>136 | 284=>137 | 285=>138 | 286=>139 | 129=>143 | 317=>142 | 318=>144 | 319=>145 | 320=>146 | 337=>150 | 338=>151 | n=>n,fun | 3=>3 | 9=>9 | 2=>2 | 4=>4 | 171=>182 | 0=>0 | 53=>159 | 37=>125 | 5=>5 | 173=>185 | 212=>188 | 51=>189 | 20=>20 | 213=>190 | 46=>191 | 232=>195 | 233=>196 | n=>n,fun | 17=>3 | 18=>4 | 19=>5 | n=>n⟩
theorem Tryz.lays171:Go.Proofs.LaysM.n171 Tryz.prog Tryz.lays171_ren:={
 mixed:=by kernel_rfl
 f129:=Tryz.func143.trans (congrArg some (by kernel_rfl))
 f171:=Tryz.func102.trans (congrArg some (by kernel_rfl))
 f243:=Tryz.func123.trans (congrArg some (by kernel_rfl))
 f246:=Tryz.func131.trans (congrArg some (by kernel_rfl))
 f283:=Tryz.func136.trans (congrArg some (by kernel_rfl))
 f284:=Tryz.func137.trans (congrArg some (by kernel_rfl))
 f285:=Tryz.func138.trans (congrArg some (by kernel_rfl))
 f286:=Tryz.func139.trans (congrArg some (by kernel_rfl))
 f317:=Tryz.func142.trans (congrArg some (by kernel_rfl))
 f318:=Tryz.func144.trans (congrArg some (by kernel_rfl))
 f319:=Tryz.func145.trans (congrArg some (by kernel_rfl))
 f320:=Tryz.func146.trans (congrArg some (by kernel_rfl))
 f337:=Tryz.func150.trans (congrArg some (by kernel_rfl))
 f338:=Tryz.func151.trans (congrArg some (by kernel_rfl))
 t0:=Tryz.underlying0
 a0:=Tryz.isAgg0
 z0:=Tryz.sizeOf0
 v0:=Tryz.zeroValue0
 t2:=Tryz.underlying2
 a2:=Tryz.isAgg2
 z2:=Tryz.sizeOf2
 v2:=Tryz.zeroValue2
 t3:=Tryz.underlying3
 a3:=Tryz.isAgg3
 z3:=Tryz.sizeOf3
 v3:=Tryz.zeroValue3
 t4:=Tryz.underlying4
 a4:=Tryz.isAgg4
 z4:=Tryz.sizeOf4
 v4:=Tryz.zeroValue4
 t5:=Tryz.underlying5
 a5:=Tryz.isAgg5
 z5:=Tryz.sizeOf5
 v5:=Tryz.zeroValue5
 t9:=Tryz.underlying9
 a9:=Tryz.isAgg9
 z9:=Tryz.sizeOf9
 v9:=Tryz.zeroValue9
 t20:=Tryz.underlying20
 a20:=Tryz.isAgg20
 z20:=Tryz.sizeOf20
 v20:=Tryz.zeroValue20
 t37:=Tryz.underlying125
 a37:=Tryz.isAgg125
 z37:=Tryz.sizeOf125
 v37:=Tryz.zeroValue125
 t46:=Tryz.underlying191
 a46:=Tryz.isAgg191
 z46:=Tryz.sizeOf191
 v46:=Tryz.zeroValue191
 t51:=Tryz.underlying189
 a51:=Tryz.isAgg189
 z51:=Tryz.sizeOf189
 v51:=Tryz.zeroValue189
 t53:=Tryz.underlying159
 a53:=Tryz.isAgg159
 z53:=Tryz.sizeOf159
 v53:=Tryz.zeroValue159
 t171:=Tryz.underlying182
 a171:=Tryz.isAgg182
 z171:=Tryz.sizeOf182
 v171:=Tryz.zeroValue182
 t173:=Tryz.underlying185
 a173:=Tryz.isAgg185
 z173:=Tryz.sizeOf185
 v173:=Tryz.zeroValue185
 t212:=Tryz.underlying188
 a212:=Tryz.isAgg188
 z212:=Tryz.sizeOf188
 v212:=Tryz.zeroValue188
 t213:=Tryz.underlying190
 a213:=Tryz.isAgg190
 z213:=Tryz.sizeOf190
 t232:=Tryz.underlying195
 a232:=Tryz.isAgg195
 z232:=Tryz.sizeOf195
 v232:=Tryz.zeroValue195
 t233:=Tryz.underlying196
 a233:=Tryz.isAgg196
 z233:=Tryz.sizeOf196
 v233:=Tryz.zeroValue196
 g17:=by kernel_rfl
 g18:=by kernel_rfl
 g19:=by kernel_rfl
 i0:=by kernel_rfl
 i2:=by kernel_rfl
 i3:=by kernel_rfl
 i4:=by kernel_rfl
 i5:=by kernel_rfl
 i9:=by kernel_rfl
 i20:=by kernel_rfl
 i37:=by kernel_rfl
 i46:=by kernel_rfl
 i51:=by kernel_rfl
 i53:=by kernel_rfl
 i171:=by kernel_rfl
 i173:=by kernel_rfl
 i212:=by kernel_rfl
 i232:=by kernel_rfl
 i233:=by kernel_rfl
 m17:=by kernel_rfl
 m18:=by kernel_rfl
 m19:=by kernel_rfl }
namespace YtkmpkebaloejhaaGreatDoor.Av
open Go
def dgB (n:Nat):UInt8:=UInt8.ofNat (48+n)
def itoaF (n:Int):Option (List UInt8):=
 bif decide (0≤n) && decide (n<1000) then some (bif decide (n<10) then [dgB n.toNat] else bif decide (n<100) then [dgB (n.toNat / 10),dgB (n.toNat % 10)] else [dgB (n.toNat / 100),dgB (n.toNat / 10 % 10),dgB (n.toNat % 10)]) else none
theorem digits_small (i:Nat) (h:i<1000):Lib.decDigits i=bif decide ((i:Int)<10) then [dgB i] else bif decide ((i:Int)<100) then [dgB (i / 10),dgB (i % 10)] else [dgB (i / 100),dgB (i / 10 % 10),dgB (i % 10)]:=by
 rw [Lib.decDigits]
 by_cases h1:i<10
 ·rw [dif_pos h1,decide_eq_true (by omega)];rfl
 ·rw [dif_neg h1,decide_eq_false (by omega),Lib.decDigits]
  by_cases h2:i / 10<10
  ·rw [dif_pos h2,decide_eq_true (by omega)];rfl
  ·rw [dif_neg h2,decide_eq_false (by omega),Lib.decDigits,dif_pos (by omega),Nat.div_div_eq_div_mul];rfl
theorem pow_tab {fz:Nat→Prop} {w:World} (hgl:GlR fz w gl0):Lib.TabIs Tryz.prog w "internal/strconv.uint64pow10" .u64 Lib.pow10Tab:=by
 obtain ⟨h1,h2⟩:=hgl 3 (Lib.pow10Tab.map (CV.int .u64)) (by kernel_rfl)
 obtain ⟨ad,cs,e1,e2,e3,e4,e5⟩:=h1 (fun _=>undef) []
 have ha:ad=⟨3,0,none⟩:=by simpa using e1.symm
 subst ha
 obtain ⟨_,cs',e,b,hh,hl⟩:=h2
 unfold Lib.TabIs World.var?
 rw [show Program.globalNamed Tryz.prog "internal/strconv.uint64pow10" = some 3 by kernel_rfl]
 simp only [Option.bind_some,hh]
 congr 1
 apply Array.ext'
 rw [List.toList_toArray]
 have hlen:cs.length=(Lib.pow10Tab.map (CV.int .u64)).length:=e4.length.symm
 apply List.ext_getElem?
 intro i
 by_cases hi:i<(Lib.pow10Tab.map (CV.int .u64)).length
 ·have hc:cs[i]?=some cs[i]:=List.getElem?_eq_getElem (by omega)
  have h5:=e2 i _ hc
  have h6:(⟨3,0,none⟩:Addr).add i=⟨3,i,none⟩:=by simp [Addr.add];exact fun h=>h.symm
  rw [h6] at h5
  have h7:cs'[i]?=some cs[i]:=by
   simp only [World.cell?,hh] at h5
   simpa using h5
  rw [Array.getElem?_toList,h7,List.getElem?_map]
  obtain ⟨v,v1,v2⟩:=e4.get i _ (List.getElem?_eq_getElem hi)
  rw [hc] at v1
  cases v1
  rw [List.getElem_map] at v2
  have v2:cs[i]=Value.int .u64 _:=v2
  rw [v2,List.getElem?_eq_getElem (by simpa using hi)]
  rfl
 ·rw [Array.getElem?_toList,Array.getElem?_eq_none (by omega),List.getElem?_eq_none (by simpa using hi)]
theorem itoa_sp (p0:Int) (y:List UInt8) (h:itoaF p0=some y):Spec Tryz.prog gl0 102 [.c (.int .i64 p0)] [] (.c (.str y)) []:=by
 refine ⟨⟨Tryz.f102,Tryz.func102,by kernel_rfl,by kernel_rfl⟩,fun old fz ρ w vs hgl hor hargs=>?_⟩
 unfold itoaF at h
 by_cases hc:0≤p0∧p0<1000
 ·rw [decide_eq_true hc.1,decide_eq_true hc.2] at h
  obtain ⟨i,rfl⟩:∃ i:Nat,p0=(i:Int):=⟨p0.toNat,by omega⟩
  have hi:i<1000:=by omega
  simp only [Bool.and_self,cond_true,Int.toNat_natCast,Option.some.injEq] at h
  rw [←digits_small i hi] at h
  subst h
  obtain ⟨vs⟩:=vs
  match vs,hargs with
  | [V],hargs=>
   have hV:V=.int .i64 i:=hargs.1
   subst hV
   refine Calls.mono (Any.strconv_Itoa Tryz.lays171 i (by omega) (by omega) w (pow_tab hgl)) ?_
   rintro e w' ⟨rfl,k,os,rfl⟩
   have hsz:w.heap.size≤(Sort.grow (w.drewN k) os).heap.size:=by
    show w.heap.size≤(w.heap++os).size
    rw [Array.size_append];omega
   have hst:∀ k',k'<w.heap.size→(Sort.grow (w.drewN k) os).heap[k']?=w.heap[k']?:=fun k' hk=>by
    show (w.heap++os)[k']?=_
    rw [Array.getElem?_append_left hk]
   refine ⟨_,ρ,fz,rfl,?_,⟨fun i o ho=>(by cases ho),fun i j g _ hi=>(by cases hi),fun k hk=>Nat.lt_of_lt_of_le (hor.fzlt k hk) hsz,fun k hk=>Nat.lt_of_lt_of_le (hor.oldlt k hk) hsz⟩,⟨fun _ h=>h,fun _ _ h=>h,fun k hk=>hst k (hor.fzlt k hk),fun k hk=>hst k (hor.oldlt k hk),hsz,rfl,rfl,rfl⟩,fun n ty cs hn=>⟨rfl,cs,hn⟩⟩
   show Value.string ⟨(Lib.itoa (i:Int)).toArray⟩=strV _
   unfold strV Lib.itoa
   simp
 ·have:(decide (0≤p0) && decide (p0<1000))=false:=by
   by_cases h1:0≤p0
   ·rw [decide_eq_false (fun h2=>hc ⟨h1,h2⟩)];simp
   ·rw [decide_eq_false h1];rfl
  rw [this] at h;cases h
end YtkmpkebaloejhaaGreatDoor.Av
end Go.Proofs
