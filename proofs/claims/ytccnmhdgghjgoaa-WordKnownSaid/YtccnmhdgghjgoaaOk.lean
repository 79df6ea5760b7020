/- Orders of long regions: shown step by step. Conditions: none. -/
import Derived.Test.YtccnmhdgghjgoaaGen0
namespace Go.Proofs.Ytccnmhdgghjgoaa.Av
open Go
def rdAt (ops:Array Oper) (listed:Array Bool) (i:Nat):Bool:=
 decide (i<ops.size) && (!listed.getD i true && ((ops[i]?).map (·.after.all fun e=>!Region.binds .any e || listed.getD e.on false)).getD false)
theorem rdAt_ok {ops:Array Oper} {listed:Array Bool} {i:Nat} (h:rdAt ops listed i=true):(Region.ready .any ops listed).contains i=true:=by
 unfold rdAt at h
 rw [Bool.and_eq_true] at h
 rw [List.contains_iff_mem]
 unfold Region.ready
 rw [List.mem_filter]
 exact ⟨List.mem_range.2 (of_decide_eq_true h.1),h.2⟩
def stepB (ops:Array Oper) (i:Nat) (t:PT) (alt:Bool) (listed:Array Bool):Bool:=match ops.toList[i]? with
 | none=>false
 | some o=>(bif steady tau o.op then !alt && (rdAt ops listed i && Region.free .any ops listed i) else (Region.ready .any ops listed).contains i && (alt || (Region.ready .any ops listed).all fun j=>Nat.beq j i)) &&
    (((List.range ops.size).all fun j=>Nat.beq j i || (listed.getD j true || t.elems.contains j)) && (bif (loadOf o.op).isSome then aftOk ops i listed else true))
theorem qab {ops:Array Oper} {i:Nat} {t:PT} {alt:Bool} {listed:Array Bool} (h:stepB ops i t alt listed=true) (h2:planB tau ops t false (listed.setIfInBounds i true)=true):planB tau ops (.op i t) alt listed=true:=by
 unfold stepB at h
 simp only [planB]
 cases ho:ops.toList[i]? with
 | none=>rw [ho] at h;cases h
 | some o=>
   rw [ho] at h
   simp only [Bool.and_eq_true] at h ⊢
   obtain ⟨h1,h3,h4⟩:=h
   cases hs:steady tau o.op with
   | true=>
     rw [hs] at h1
     simp only [cond_true,Bool.and_eq_true] at h1 ⊢
     exact ⟨rdAt_ok h1.2.1,⟨h1.1,h1.2.2⟩,h3,h4,h2⟩
   | false=>
     rw [hs] at h1
     simp only [cond_false,Bool.and_eq_true] at h1 ⊢
     exact ⟨h1.1,h1.2,h3,h4,h2⟩
def twoB (ops:Array Oper) (i j:Nat) (alt:Bool) (listed:Array Bool):Bool:=match ops.toList[i]?,ops.toList[j]? with
 | some o,some p=>(!alt && twoOk tau ops i j o p) && ((((Region.ready .any ops listed).contains i && (Region.ready .any ops listed).contains j) && (Region.ready .any ops listed).all fun x=>Nat.beq x i || Nat.beq x j) &&
    (((Region.ready .any ops (listed.setIfInBounds i true)).contains j && (Region.ready .any ops (listed.setIfInBounds i true)).all fun x=>Nat.beq x j) &&
      ((Region.ready .any ops (listed.setIfInBounds j true)).contains i && (Region.ready .any ops (listed.setIfInBounds j true)).all fun x=>Nat.beq x i)))
 | _,_=>false
theorem qbu {ops:Array Oper} {i j:Nat} {t:PT} {alt:Bool} {listed:Array Bool} (h:twoB ops i j alt listed=true) (h2:planB tau ops t false ((listed.setIfInBounds i true).setIfInBounds j true)=true):planB tau ops (.two i j t) alt listed=true:=by
 unfold twoB at h
 simp only [planB]
 split at h
 ·rename_i o p ho hp
  rw [ho,hp]
  simp only [Bool.and_eq_true] at h ⊢
  obtain ⟨⟨a1,a2⟩,⟨⟨b1,b2⟩,b3⟩,⟨c1,c2⟩,d1,d2⟩:=h
  exact ⟨⟨a1,a2⟩,⟨⟨b1,b2⟩,b3⟩,⟨⟨c1,c2⟩,d1,d2⟩,h2⟩
 ·cases h
def regs:Code→List (Nat×Array Oper)
 | .region id ops draw=>bif draw then [(id,ops)] else []
 | .seq a b=>regs a++regs b
 | .cond _ a b=>regs a++regs b
 | .block _ b=>regs b
 | .loop b=>regs b
 | .scope b=>regs b
 | _=>[]
def regOps (id:Nat):List (Nat×Array Oper)→Array Oper
 | []=>#[]
 | p::r=>bif Nat.beq p.1 id then p.2 else regOps id r
def pbOf (p:List (Nat×PT)) (q:Nat×Array Oper):Bool:=Region.noSelect q.2 && (planB tau q.2 (lookP p q.1) false (Array.replicate q.2.size false) && Nat.ble (lookP p q.1).len q.2.size)
theorem okC_regs (p:List (Nat×PT)) (c:Code):okC tau p c=(regs c).all (pbOf p):=by
 induction c with
 | region id ops draw=>cases draw<;>simp [okC,regs,pbOf]
 | seq a b iha ihb=>simp only [okC,regs,List.all_append,iha,ihb]
 | cond c a b iha ihb=>simp only [okC,regs,List.all_append,iha,ihb]
 | block id b ih=>simp only [okC,regs,ih]
 | loop b ih=>simp only [okC,regs,ih]
 | scope b ih=>simp only [okC,regs,ih]
 | _=>rfl
theorem okF_regs {X:Aux} {fn:Func} {c:Code} (h:fn.body=some c):okF tau X fn=(regs c).all (pbOf X.plan):=by
 unfold okF
 rw [h]
 exact okC_regs X.plan c
theorem pbOf_of {p:List (Nat×PT)} {id:Nat} {ops:Array Oper} {t:PT} {L:Array Bool} (h0:lookP p id=t) (h1:Array.replicate ops.size false=L) (h2:Region.noSelect ops=true) (h3:planB tau ops t false L=true) (h4:Nat.ble t.len ops.size=true):pbOf p (id,ops)=true:=by
 unfold pbOf
 rw [h0,h1,h2,h3,h4]
 rfl
end Go.Proofs.Ytccnmhdgghjgoaa.Av
