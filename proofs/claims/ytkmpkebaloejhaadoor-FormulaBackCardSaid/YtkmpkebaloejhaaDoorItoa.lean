/- strconv.Itoa of numbers below 1000. Conditions: none. -/
import Derived.Test.YtkmpkebaloejhaaDoorGen0
import Derived.Shelf.Strconv.Itoa3
import Derived.KernelRfl
namespace Go.Proofs
open Go.Shelf
def Tryd.lays171_ren:Go.Shelf.Ren:=⟨fun | 171=>51 | 243=>91 | 246=>121 | 283=>131 | 284=>132 | 285=>133 | 286=>134 | 129=>139 | 317=>138 | 318=>140 | 319=>141 | 320=>142 | 337=>145 | 338=>146 | n=>n,fun | 3=>3 | 9=>9 | 2=>2 | 4=>4 | 171=>162 | 0=>0 | 53=>138 | 37=>110 | 5=>5 | 173=>165 | 212=>168 | 51=>169 | 20=>20 | 213=>170 | 46=>171 | 232=>174 | 233=>175 | n=>n,fun | 17=>3 | 18=>4 | 19=>5 | n=>n⟩
theorem Tryd.lays171:Go.Proofs.LaysM.n171 Tryd.prog Tryd.lays171_ren:={
 mixed:=by kernel_rfl
 f129:=Tryd.func139.trans (congrArg some (by kernel_rfl))
 f171:=Tryd.func51.trans (congrArg some (by kernel_rfl))
 f243:=Tryd.func91.trans (congrArg some (by kernel_rfl))
 f246:=Tryd.func121.trans (congrArg some (by kernel_rfl))
 f283:=Tryd.func131.trans (congrArg some (by kernel_rfl))
 f284:=Tryd.func132.trans (congrArg some (by kernel_rfl))
 f285:=Tryd.func133.trans (congrArg some (by kernel_rfl))
 f286:=Tryd.func134.trans (congrArg some (by kernel_rfl))
 f317:=Tryd.func138.trans (congrArg some (by kernel_rfl))
 f318:=Tryd.func140.trans (congrArg some (by kernel_rfl))
 f319:=Tryd.func141.trans (congrArg some (by kernel_rfl))
 f320:=Tryd.func142.trans (congrArg some (by kernel_rfl))
 f337:=Tryd.func145.trans (congrArg some (by kernel_rfl))
 f338:=Tryd.func146.trans (congrArg some (by kernel_rfl))
 t0:=Tryd.underlying0
 a0:=Tryd.isAgg0
 z0:=Tryd.sizeOf0
 v0:=Tryd.zeroValue0
 t2:=Tryd.underlying2
 a2:=Tryd.isAgg2
 z2:=Tryd.sizeOf2
 v2:=Tryd.zeroValue2
 t3:=Tryd.underlying3
 a3:=Tryd.isAgg3
 z3:=Tryd.sizeOf3
 v3:=Tryd.zeroValue3
 t4:=Tryd.underlying4
 a4:=Tryd.isAgg4
 z4:=Tryd.sizeOf4
 v4:=Tryd.zeroValue4
 t5:=Tryd.underlying5
 a5:=Tryd.isAgg5
 z5:=Tryd.sizeOf5
 v5:=Tryd.zeroValue5
 t9:=Tryd.underlying9
 a9:=Tryd.isAgg9
 z9:=Tryd.sizeOf9
 v9:=Tryd.zeroValue9
 t20:=Tryd.underlying20
 a20:=Tryd.isAgg20
 z20:=Tryd.sizeOf20
 v20:=Tryd.zeroValue20
 t37:=Tryd.underlying110
 a37:=Tryd.isAgg110
 z37:=Tryd.sizeOf110
 v37:=Tryd.zeroValue110
 t46:=Tryd.underlying171
 a46:=Tryd.isAgg171
 z46:=Tryd.sizeOf171
 v46:=Tryd.zeroValue171
 t51:=Tryd.underlying169
 a51:=Tryd.isAgg169
 z51:=Tryd.sizeOf169
 v51:=Tryd.zeroValue169
 t53:=Tryd.underlying138
 a53:=Tryd.isAgg138
 z53:=Tryd.sizeOf138
 v53:=Tryd.zeroValue138
 t171:=Tryd.underlying162
 a171:=Tryd.isAgg162
 z171:=Tryd.sizeOf162
 v171:=Tryd.zeroValue162
 t173:=Tryd.underlying165
 a173:=Tryd.isAgg165
 z173:=Tryd.sizeOf165
 v173:=Tryd.zeroValue165
 t212:=Tryd.underlying168
 a212:=Tryd.isAgg168
 z212:=Tryd.sizeOf168
 v212:=Tryd.zeroValue168
 t213:=Tryd.underlying170
 a213:=Tryd.isAgg170
 z213:=Tryd.sizeOf170
 t232:=Tryd.underlying174
 a232:=Tryd.isAgg174
 z232:=Tryd.sizeOf174
 v232:=Tryd.zeroValue174
 t233:=Tryd.underlying175
 a233:=Tryd.isAgg175
 z233:=Tryd.sizeOf175
 v233:=Tryd.zeroValue175
 g17:=by kernel_rfl
 g18:=by kernel_rfl
 g19:=by kernel_rfl
 i0:=by kernel_rfl
 i2:=by kernel_rfl
 i3:=by kernel_rfl
 i4:=by kernel_rfl
 i5:=by kernel_rfl
 i9:=by kernel_rfl
 i20:=by kernel_rfl
 i37:=by kernel_rfl
 i46:=by kernel_rfl
 i51:=by kernel_rfl
 i53:=by kernel_rfl
 i171:=by kernel_rfl
 i173:=by kernel_rfl
 i212:=by kernel_rfl
 i232:=by kernel_rfl
 i233:=by kernel_rfl
 m17:=by kernel_rfl
 m18:=by kernel_rfl
 m19:=by kernel_rfl }
namespace YtkmpkebaloejhaaDoor.Av
open Go
def dgB (n:Nat):UInt8:=UInt8.ofNat (48+n)
def itoaF (n:Int):Option (List UInt8):=
 bif decide (0≤n) && decide (n<1000) then some (bif decide (n<10) then [dgB n.toNat] else bif decide (n<100) then [dgB (n.toNat / 10),dgB (n.toNat % 10)] else [dgB (n.toNat / 100),dgB (n.toNat / 10 % 10),dgB (n.toNat % 10)]) else none
theorem digits_small (i:Nat) (h:i<1000):Lib.decDigits i=bif decide ((i:Int)<10) then [dgB i] else bif decide ((i:Int)<100) then [dgB (i / 10),dgB (i % 10)] else [dgB (i / 100),dgB (i / 10 % 10),dgB (i % 10)]:=by
 rw [Lib.decDigits]
 by_cases h1:i<10
 ·rw [dif_pos h1,decide_eq_true (by omega)];rfl
 ·rw [dif_neg h1,decide_eq_false (by omega),Lib.decDigits]
  by_cases h2:i / 10<10
  ·rw [dif_pos h2,decide_eq_true (by omega)];rfl
  ·rw [dif_neg h2,decide_eq_false (by omega),Lib.decDigits,dif_pos (by omega),Nat.div_div_eq_div_mul];rfl
theorem pow_tab {fz:Nat→Prop} {w:World} (hgl:GlR fz w gl0):Lib.TabIs Tryd.prog w "internal/strconv.uint64pow10" .u64 Lib.pow10Tab:=by
 obtain ⟨h1,h2⟩:=hgl 3 (Lib.pow10Tab.map (CV.int .u64)) (by kernel_rfl)
 obtain ⟨ad,cs,e1,e2,e3,e4,e5⟩:=h1 (fun _=>undef) []
 have ha:ad=⟨3,0,none⟩:=by simpa using e1.symm
 subst ha
 obtain ⟨_,cs',e,b,hh,hl⟩:=h2
 unfold Lib.TabIs World.var?
 rw [show Program.globalNamed Tryd.prog "internal/strconv.uint64pow10" = some 3 by kernel_rfl]
 simp only [Option.bind_some,hh]
 congr 1
 apply Array.ext'
 rw [List.toList_toArray]
 have hlen:cs.length=(Lib.pow10Tab.map (CV.int .u64)).length:=e4.length.symm
 apply List.ext_getElem?
 intro i
 by_cases hi:i<(Lib.pow10Tab.map (CV.int .u64)).length
 ·have hc:cs[i]?=some cs[i]:=List.getElem?_eq_getElem (by omega)
  have h5:=e2 i _ hc
  have h6:(⟨3,0,none⟩:Addr).add i=⟨3,i,none⟩:=by simp [Addr.add];exact fun h=>h.symm
  rw [h6] at h5
  have h7:cs'[i]?=some cs[i]:=by
   simp only [World.cell?,hh] at h5
   simpa using h5
  rw [Array.getElem?_toList,h7,List.getElem?_map]
  obtain ⟨v,v1,v2⟩:=e4.get i _ (List.getElem?_eq_getElem hi)
  rw [hc] at v1
  cases v1
  rw [List.getElem_map] at v2
  have v2:cs[i]=Value.int .u64 _:=v2
  rw [v2,List.getElem?_eq_getElem (by simpa using hi)]
  rfl
 ·rw [Array.getElem?_toList,Array.getElem?_eq_none (by omega),List.getElem?_eq_none (by simpa using hi)]
theorem itoa_sp (p0:Int) (y:List UInt8) (h:itoaF p0=some y):Spec Tryd.prog gl0 51 [.c (.int .i64 p0)] [] (.c (.str y)) []:=by
 refine ⟨⟨Tryd.f51,Tryd.func51,by kernel_rfl,by kernel_rfl⟩,fun old fz ρ w vs hgl hor hargs=>?_⟩
 unfold itoaF at h
 by_cases hc:0≤p0∧p0<1000
 ·rw [decide_eq_true hc.1,decide_eq_true hc.2] at h
  obtain ⟨i,rfl⟩:∃ i:Nat,p0=(i:Int):=⟨p0.toNat,by omega⟩
  have hi:i<1000:=by omega
  simp only [Bool.and_self,cond_true,Int.toNat_natCast,Option.some.injEq] at h
  rw [←digits_small i hi] at h
  subst h
  obtain ⟨vs⟩:=vs
  match vs,hargs with
  | [V],hargs=>
   have hV:V=.int .i64 i:=hargs.1
   subst hV
   refine Calls.mono (Any.strconv_Itoa Tryd.lays171 i (by omega) (by omega) w (pow_tab hgl)) ?_
   rintro e w' ⟨rfl,k,os,rfl⟩
   have hsz:w.heap.size≤(Sort.grow (w.drewN k) os).heap.size:=by
    show w.heap.size≤(w.heap++os).size
    rw [Array.size_append];omega
   have hst:∀ k',k'<w.heap.size→(Sort.grow (w.drewN k) os).heap[k']?=w.heap[k']?:=fun k' hk=>by
    show (w.heap++os)[k']?=_
    rw [Array.getElem?_append_left hk]
   refine ⟨_,ρ,fz,rfl,?_,⟨fun i o ho=>(by cases ho),fun i j g _ hi=>(by cases hi),fun k hk=>Nat.lt_of_lt_of_le (hor.fzlt k hk) hsz,fun k hk=>Nat.lt_of_lt_of_le (hor.oldlt k hk) hsz⟩,⟨fun _ h=>h,fun _ _ h=>h,fun k hk=>hst k (hor.fzlt k hk),fun k hk=>hst k (hor.oldlt k hk),hsz,rfl,rfl,rfl⟩,fun n ty cs hn=>⟨rfl,cs,hn⟩⟩
   show Value.string ⟨(Lib.itoa (i:Int)).toArray⟩=strV _
   unfold strV Lib.itoa
   simp
 ·have:(decide (0≤p0) && decide (p0<1000))=false:=by
   by_cases h1:0≤p0
   ·rw [decide_eq_false (fun h2=>hc ⟨h1,h2⟩)];simp
   ·rw [decide_eq_false h1];rfl
  rw [this] at h;cases h
end YtkmpkebaloejhaaDoor.Av
end Go.Proofs
