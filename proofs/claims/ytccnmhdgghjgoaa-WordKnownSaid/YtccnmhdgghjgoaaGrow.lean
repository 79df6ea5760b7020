/- slices.Grow at []api.Part: the kit's shelf,laid by hand. Conditions: none. -/
import Derived.Test.YtccnmhdgghjgoaaGen0
import Derived.Shelf.Spec.SlicesGrow
namespace Go.Proofs.Ytccnmhdgghjgoaa.Av
open Go Go.Shelf Go.Proofs Go.RowKit
def cNl {R:Type} (a:CV) (f:Option R):Option R:=
 match a with
 | .nil=>f
 | _=>none
theorem cNl_some {R:Type} {r:R} {a:CV} {f:Option R} (h:cNl a f=some r):a=.nil∧f=some r:=by
 unfold cNl at h
 split at h
 ·exact ⟨rfl,h⟩
 ·cases h
def growRen_70:Go.Shelf.Ren:=⟨fun | 4=>70 | n=>n,fun | 22=>42 | 25=>77 | n=>n,fun n=>n⟩
theorem qe3:Lays8.n4 Try.prog growRen_70 where
 mixed:=by kernel_rfl
 f4:=⟨Try.f70.name,by kernel_rfl,Try.func70.trans (congrArg some (by kernel_rfl))⟩
 t0:=Try.underlying0
 a0:=Try.isAgg0
 z0:=Try.sizeOf0
 v0:=Try.zeroValue0
 t3:=Try.underlying3
 a3:=Try.isAgg3
 z3:=Try.sizeOf3
 v3:=Try.zeroValue3
 t4:=Try.underlying4
 a4:=Try.isAgg4
 z4:=Try.sizeOf4
 v4:=Try.zeroValue4
 t9:=Try.underlying9
 a9:=Try.isAgg9
 z9:=Try.sizeOf9
 v9:=Try.zeroValue9
 t20:=Try.underlying20
 a20:=Try.isAgg20
 z20:=Try.sizeOf20
 v20:=Try.zeroValue20
 t22:=Try.underlying42
 a22:=Try.isAgg42
 z22:=Try.sizeOf42
 v22:=Try.zeroValue42
theorem grow_zero_70:Spec Try.prog gl0 70 [.c .nil,.c (.int .i64 0)] [] (.c (.own 500)) [(500,.row 77 ty77 [])]:=by
 refine ⟨⟨Try.f70,Try.func70,by kernel_rfl,by kernel_rfl⟩,fun old fz ρ w vs hg ho ha=>?_⟩
 obtain ⟨vl⟩:=vs
 match vl,ha with
 | [V,W],⟨h1,h2,_⟩=>
 have hV:V=.slice none 0 0:=h1
 have hW:W=.int .i64 0:=h2
 subst hV;subst hW
 refine (Any8.slices_Grow_room qe3 none 0 0 0 w (by omega) (by omega) (by omega) (by omega)).mono fun e w' ⟨he,hw⟩=>?_
 subst hw
 have hn:=new_nil ho (u:=500) rfl 77 ty77
 exact ⟨_,_,fz,he,by simp [AVR,CVR,oget,upd],hn.1,Frm.refl _ _ _,fun _ _ _ h=>(by cases h)⟩
theorem grow_succ_70 (k:Nat) (hk:(k+1)*72≤140737488355328):Spec Try.prog gl0 70 [.c .nil,.c (.int .i64 ((k+1:Nat):Int))] [] (.c (.own 500)) [(500,.row 77 ty77 [])]:=by
 refine ⟨⟨Try.f70,Try.func70,by kernel_rfl,by kernel_rfl⟩,fun old fz ρ w vs hg ho ha=>?_⟩
 obtain ⟨vl⟩:=vs
 match vl,ha with
 | [V,W],⟨h1,h2,_⟩=>
 have hV:V=.slice none 0 0:=h1
 have hW:W=.int .i64 ((k+1:Nat):Int):=h2
 subst hV;subst hW
 obtain ⟨i,z,hi,hs,hby,hz,hzr,hzo⟩:=(tau_ok 77 _ (show tau 77=some _ from rfl)).info
 have hzl:z.cells.size=3:=by
  have h1:=hzr.length
  simpa using h1.symm
 simp only at hs hby
 refine (Any8.slices_Grow_grow qe3 i z hi hz (by omega) none 0 0 (k+1) [] w (by omega) (by omega) (by rw [hby];omega) (by omega) (by simp) (fun _=>rfl) (fun a h=>by cases h)).mono fun e w' ⟨he,hw⟩=>?_
 have hd:OR fz old ρ w.drew []:=⟨fun i o ho=>(by cases ho),fun i j g _ hi=>(by cases hi),ho.fzlt,ho.oldlt⟩
 have hge:=grownCap_ge w (0+(k+1)) 0 (growRen_70.t 25)
 have hle:=grownCap_le_maxLen w (0+(k+1)) 0 (growRen_70.t 25) (by unfold maxLen;omega)
 generalize grownCap w (0+(k+1)) 0 (growRen_70.t 25)=c at he hw hge hle
 subst hw
 obtain ⟨r1,r2,r3⟩:=new_row hd (u:=500) (e:=77) rfl (t:=ty77) (xs:=[]) (css:=[]) trivial (([]:List Value).toArray++Builtin.zeroCells z.cells (0+(k+1)-0)++Builtin.zeroCells z.cells (c-(0+(k+1)))) (cap:=c) (by simp) hle (by
  simp only [Array.size_append,size_zeroCells,hzl]
  show _=c*3
  simp
  omega) (by simp)
 have hf:=qay hd (.cells (([]:List Value).toArray++Builtin.zeroCells z.cells (0+(k+1)-0)++Builtin.zeroCells z.cells (c-(0+(k+1)))) 77)
 exact ⟨_,_,fz,he,r3,r1,⟨hf.up,hf.back,hf.fzw,hf.oldw,hf.size,hf.os,hf.tape,hf.output⟩,fun _ _ _ h=>(by cases h)⟩
def growF70 (n:Int):Option (List ty77.den):=if 0≤n∧n*72≤140737488355328 then some [] else none
theorem grow_sp70 (n:Int) (y:List ty77.den) (hy:growF70 n=some y):Spec Try.prog gl0 70 [.c .nil,.c (.int .i64 n)] [] (.c (.own 500)) [(500,.row 77 ty77 y)]:=by
 unfold growF70 at hy
 split at hy
 case isFalse=>cases hy
 rename_i hn
 cases hy
 obtain ⟨k,rfl⟩:∃ k:Nat,n=(k:Int):=⟨n.toNat,by omega⟩
 cases k with
 | zero=>exact grow_zero_70
 | succ k=>exact grow_succ_70 k (by omega)
end Go.Proofs.Ytccnmhdgghjgoaa.Av
