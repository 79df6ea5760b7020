/- slices.Backward's function,walked. Conditions: none. -/
import Derived.Test.YtkmpkebaloejhaaGreatDoorAv18
import Derived.RangeFuncBox
import Derived.RangeFuncLeaves
import Derived.Shelf.Abstract
import Derived.WalkKit
import Derived.OwnWalkIn
import Derived.TacticsInMore
import Derived.LoopNIn
import Derived.LoopIn
import Derived.KernelRfl
namespace Go.Proofs.YtkmpkebaloejhaaGreatDoor.Av
open Go Go.RowKit Go.Shelf
attribute [local go_sem] Oper.semAt_some
set_option maxRecDepth 100000
set_option maxHeartbeats 2000000
theorem w64 {n:Int} (h1:-9223372036854775808≤n) (h2:n≤9223372036854775807):wrap64 n=n:=by unfold wrap64;omega
theorem back_in:BackOk Tryz.prog 127:=by
 refine ⟨fun args w=>?_,fun l Bs J W A len cap hBs hlen h0 hY=>?_⟩
 ·have h1:Tryz.f127.name≠"runtime.NumGoroutine":=by
   have:(Tryz.f127.name == "runtime.NumGoroutine")=false:=by kernel_rfl
   simpa using this
  have h2:Tryz.f127.body≠none:=fun hx=>by
   have:Tryz.f127.body.isNone=false:=by kernel_rfl
   rw [hx] at this;cases this
  simp [callFunc,Tryz.func127,h1,h2]
 ·refine callsIn_of_wp Tryz.func127 rfl trivial ?_ rfl
  simp only [Tryz.ntmps127,List.size_toArray,List.length_cons,List.length_nil,Nat.reduceAdd,Nat.reduceSub,Array.replicate_succ,Array.replicate_zero,List.push_toArray,List.append_toArray,List.nil_append,List.cons_append]
  gi_wp2
  gi_loopw [3] (fun i wr=>∃ k:Int,-1≤k∧k<9223372036854775807∧i=.int .i64 k∧J k wr) (fun i _=>(intOf i+1).toNat)
  case atStart=>
   have hlen:len≤9223372036854775807:=hlen
   exact ⟨(len:Int)-1,by omega,by omega,by rw [w64 (by omega) (by omega)],h0⟩
  case round=>
   obtain ⟨k,hk1,hk2,rfl,hJ⟩:=hrel
   by_cases hlt:0≤k
   ·obtain ⟨j,rfl⟩:∃ j:Nat,k=(j:Int):=⟨k.toNat,by omega⟩
    obtain ⟨ad,len',cap',x,hc,hj,hl',hx,fn,tmps,assign,body,hy,hR⟩:=hY j wr hJ
    gi_wp2
    refine hR.mono ?_
    rintro e W3 ⟨rfl,hJ3⟩
    gi_wp2
    go_roundw
    case rel=>exact ⟨(j:Int)-1,by omega,by omega,rfl,hJ3⟩
    case measure=>simp [intOf]
   ·gi_wp2
    obtain rfl:k = -1:=by omega
    go_end0
    exact ⟨⟨_,rfl⟩,hJ⟩
theorem back_all:∀ f,(f,8765432)∈owL→BackOk Tryz.prog f:=fun f h=>by
 simp [owL] at h
 subst h
 exact back_in
end Go.Proofs.YtkmpkebaloejhaaGreatDoor.Av
