import Derived.Test.YtcnpijmfgfnpiaaGreatDoorUB5
set_option linter.unusedSimpArgs false
set_option linter.unusedVariables false
namespace Go.Proofs.YtcnpijmfgfnpiaaGreatDoor
namespace K
open Go
theorem BD{R X L:List D}:((R++X)++L).Perm ((L++R)++X):=by rw [List.append_assoc L];exact List.perm_append_comm
theorem BB{S:FS}{w:World}{T:TypeId}{z:Value×(Nat→Value)}{ls:List (List Int)}{v:Value}(h:(A.eq z.1).holds S w v)(hl:∀d∈eM T z ls,d.holds S w∧∀b,d.foot=some b→S b):(A.rep (.slice (.slice (.int .i64))) ls).holds S w v:=by
 have h:v=z.1:=h;rw [h];exact Gf hl
theorem za{d0:D}(h:d0.flat=true):∀d∈[d0],d.flat=true:=fun d hd=>by
 simp only [List.mem_cons,List.not_mem_nil,or_false] at hd
 subst hd;exact h
theorem Ec{c:Cx}{ops:Array Oper}{o:Oper}{l:List Oper}{Q:Exit→Act→VW→Prop}{Γ:Ga}{R0 R1 X:List D}{T:TypeId}{z:Value×(Nat→Value)}{ls:List (List Int)}{r:A}{N N':List (Operand×A)}{d:Nat}(hg:o.guard=none)(hd:o.dst=some d)(hdN:Nat.blt d c.N=true)
 (ht:bI c.M o N' R0 (fun _:Unit=>(r,R1))) (hN:∀S w a,(∀d∈eM T z ls,d.holds S w∧∀b,d.foot=some b→S b)→bb S w a N→bb S w a N') (hf:r.flat=true) (hf1:∀d∈R1,d.flat=true) (hh:eC Γ N)
 (h:JO c ops l Q ((d,r)::Γ) ((R1++X)++eM T z ls)):JO c ops (o::l) Q Γ ((R0++X)++eM T z ls):=
 co (fi BD) (bH (Δ:=eM T z ls++R0) (F:=X) (fun _ _ _=>au hg _) hd hdN (zC ht hN fun _=>⟨hf,hf1⟩) hh fun _=>co (fi BD.symm) h)
theorem A6{c:Cx}{ops:Array Oper}{o oj:Oper}{l:List Oper}{Q:Exit→Act→VW→Prop}{Γ:Ga}{R0 R1 X:List D}{T:TypeId}{z:Value×(Nat→Value)}{ls:List (List Int)}{r:A}{N N':List (Operand×A)}{d j s:Nat}{g:Bool}(hg:o.guard=some (j,g))(hj:ops[j]? =some oj)(hs:oj.dst=some s)(hl:lk Γ s=some (.eq (.bool g)))(hd:o.dst=some d)(hdN:Nat.blt d c.N=true)
 (ht:bI c.M o N' R0 (fun _:Unit=>(r,R1))) (hN:∀S w a,(∀d∈eM T z ls,d.holds S w∧∀b,d.foot=some b→S b)→bb S w a N→bb S w a N') (hf:r.flat=true) (hf1:∀d∈R1,d.flat=true) (hh:eC Γ N)
 (h:JO c ops l Q ((d,r)::Γ) ((R1++X)++eM T z ls)):JO c ops (o::l) Q Γ ((R0++X)++eM T z ls):=
 co (fi BD) (bH (Δ:=eM T z ls++R0) (F:=X) (fun _ _ h=>by rw [mh hg hj hs hl h];simp) hd hdN (zC ht hN fun _=>⟨hf,hf1⟩) hh fun _=>co (fi BD.symm) h)
end K
end Go.Proofs.YtcnpijmfgfnpiaaGreatDoor
