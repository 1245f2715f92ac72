/- The laws' draws: each ends, whatever the code; what is drawn is small. -/
import Derived.Test.YtlaicnoikeieeaaDoorMBase
namespace Go.Proofs.YtlaicnoikeieeaaDoor.Pu
open Go.RowKit Go.Proofs.YtlaicnoikeieeaaDoor.Cat Go.Proofs.YtlaicnoikeieeaaDoor.P Go.Proofs.YtlaicnoikeieeaaDoorW.PrintWords
set_option linter.unusedVariables false
set_option linter.unusedSimpArgs false

/-- what a code is -/
def Code (b:List Int):Prop:=(∀ x ∈ b,0≤x∧x≤255)∧b.length≤2000

/-- a small place -/
def Sm (B:Int) (c:Cell):Prop:=-B≤c.f1∧c.f1≤B∧c.f2.size≤16
def Sms (B:Int) (l:List Cell):Prop:=l.length≤41∧∀ c ∈ l,Sm B c

theorem Sm.up {B C:Int} (h:B≤C) {c:Cell} (hc:Sm B c):Sm C c:=⟨by have:=hc.1;omega,by have:=hc.2.1;omega,hc.2.2⟩
theorem Sms.set {l:List Cell} (h:Sms 200000 l) (i:Nat) (c:Cell) (hc:Sm 200000 c):Sms 200000 (l.set i c):=by
 refine ⟨by rw [List.length_set];exact h.1,fun d hd=>?_⟩
 rcases List.mem_or_eq_of_mem_set hd with h'|rfl
 ·exact h.2 d h'
 ·exact hc
theorem Sms.snoc {l:List Cell} (h:Sms 200000 l) (hl:l.length≤40) (c:Cell) (hc:Sm 200000 c):Sms 200000 (l++[c]):=by
 refine ⟨by simp;omega,fun d hd=>?_⟩
 rcases List.mem_append.1 hd with h'|h'
 ·exact h.2 d h'
 ·rw [List.mem_singleton.1 h'];exact hc

end Go.Proofs.YtlaicnoikeieeaaDoor.Pu
