/-
  Texts joined: BrE, G12.
-/
import Derived.Test.YtifebijohmlnbaaGreatZS1
import Derived.Test.YtifebijohmlnbaaGreatZS2
import Derived.Test.YtifebijohmlnbaaGreatZS3
import Derived.Test.YtifebijohmlnbaaGreatZS4
import Derived.Test.YtifebijohmlnbaaGreatZS5
import Derived.Test.YtifebijohmlnbaaGreatZS6
import Derived.Test.YtifebijohmlnbaaGreatZS7
import Derived.Test.YtifebijohmlnbaaGreatZS8
import Derived.Test.YtifebijohmlnbaaGreatZS9
import Derived.Test.YtifebijohmlnbaaGreatZS10
import Derived.Test.YtifebijohmlnbaaGreatZS11
import Derived.Test.YtifebijohmlnbaaGreatZS12
import Derived.Test.YtifebijohmlnbaaGreatZS13
import Derived.Deep.CondSized
namespace Go.Proofs.YtifebijohmlnbaaGreat
set_option linter.unusedVariables false
set_option linter.unusedSimpArgs false
open Go.RowKit
set_option maxRecDepth 100000
set_option maxHeartbeats 8000000
section
open Go.RowKit Go.ChangeShapes Go.WideShapes Go.ChangeAt Go.Deep
theorem om:OA Tryz.prog 73 3 (fun _ m=>I64 m.node∧I64 m.since) eM:=
 (oa_struct Tryz.underlying73 (by kernel_rfl) (of_cons rfl oi (of_cons rfl oi (of_cons rfl obl of_nil)))).map (fun d=>⟨d.1,d.2.1,d.2.2.1⟩) (fun _ _ _ _ h=>h) (fun _ _ h=>⟨h.1,h.2.1⟩) fun _=>rfl
theorem oms:OA Tryz.prog 35 1 (fun N (l:List Member)=>(∀ m∈l,I64 m.node∧I64 m.since)∧l.length < N) (fun l=>[ms none l]):=oa_slice (by decide) Tryz.underlying35 (by kernel_rfl) om
def okC (N:Nat) (c:Config):Prop:=I64 c.epoch∧(∀ m∈c.members,I64 m.node∧I64 m.since)∧c.members.length < N
theorem okC.up {m n:Nat} {c:Config} (h:m≤n) (k:okC m c):okC n c:=⟨k.1,k.2.1,Nat.lt_of_lt_of_le k.2.2 h⟩
theorem ocf:OA Tryz.prog 37 2 okC (eC none):=
 (oa_struct Tryz.underlying37 (by kernel_rfl) (of_cons rfl oi (of_cons rfl oms of_nil))).map (fun d=>⟨d.1,d.2.1⟩) (fun _ _ _=>okC.up) (fun _ _ h=>⟨h.1,h.2.1.1,h.2.1.2⟩) fun _=>rfl
def okE (N:Nat) (e:Entry):Prop:=I64 e.pos∧I64 e.stamp∧I64 e.client∧I64 e.id∧e.body.length < N
theorem okE.up {m n:Nat} {e:Entry} (h:m≤n) (k:okE m e):okE n e:=⟨k.1,k.2.1,k.2.2.1,k.2.2.2.1,Nat.lt_of_lt_of_le k.2.2.2.2 h⟩
theorem oen:OA Tryz.prog 75 5 okE (eE none):=
 (oa_struct Tryz.underlying75 (by kernel_rfl) (of_cons rfl oi (of_cons rfl oi (of_cons rfl oi (of_cons rfl oi (of_cons rfl obs of_nil)))))).map (fun d=>⟨d.1,d.2.1,d.2.2.1,d.2.2.2.1,d.2.2.2.2.1⟩) (fun _ _ _=>okE.up) (fun _ _ h=>⟨h.1,h.2.1,h.2.2.1,h.2.2.2.1,h.2.2.2.2.1.2⟩) fun _=>rfl
end
section
open Go.RowKit Go.ChangeShapes Go.WideShapes Go.ChangeAt Go.Deep
theorem oens':OA Tryz.prog 34 1 (fun N (l:List Entry)=>(∀ e∈l,okE N e)∧l.length < N) (fun l=>[es none none l]):=oa_slice (by decide) Tryz.underlying34 (by kernel_rfl) oen
def okM0 (N:Nat) (m:Msg):Prop:=m.body.length < N∧m.entries.length < N∧m.cfg.members.length < N∧∀ e∈m.entries,e.body.length < N
theorem omg0:OA Tryz.prog 39 12 okM0 eG:=
 (oa_struct Tryz.underlying39 (by kernel_rfl) (of_cons rfl ou (of_cons rfl oi (of_cons rfl oi (of_cons rfl obs (of_cons rfl oi (of_cons rfl oi (of_cons rfl oens' (of_cons rfl oi (of_cons rfl oi (of_cons rfl ocf (of_cons rfl oi of_nil)))))))))))).map
   (fun d=>⟨d.1,d.2.1,d.2.2.1,d.2.2.2.1,d.2.2.2.2.1,d.2.2.2.2.2.1,d.2.2.2.2.2.2.1,d.2.2.2.2.2.2.2.1,d.2.2.2.2.2.2.2.2.1,d.2.2.2.2.2.2.2.2.2.1,d.2.2.2.2.2.2.2.2.2.2.1⟩) (fun _ _ _ hmn h=>⟨by have:=h.1;omega,by have:=h.2.1;omega,by have:=h.2.2.1;omega,fun e he=>by have:=h.2.2.2 e he;omega⟩)
   (fun n d h=>by
     obtain ⟨_,h1,h2,h3,h4,h5,h6,h7,h8,h9,h10,_⟩:=h;exact ⟨h3.2,h6.2,h9.2.2,fun e he=>(h6.1 e he).2.2.2.2⟩) fun _=>rfl
def okGa (N:Nat) (a:Ga):Prop:=a.body.length < N∧okM0 N a.m
theorem oga:OA Tryz.prog 41 17 okGa eGa:=
 (oa_struct Tryz.underlying41 (by kernel_rfl) (of_cons rfl oi (of_cons rfl oi (of_cons rfl obs (of_cons rfl oi (of_cons rfl oi (of_cons rfl omg0 of_nil))))))).map
   (fun d=>(⟨d.1,d.2.1,d.2.2.1,d.2.2.2.1,d.2.2.2.2.1,d.2.2.2.2.2.1⟩:Ga)) (fun _ _ _ hmn h=>⟨by have:=h.1;omega,by have:=h.2.1;omega,by have:=h.2.2.1;omega,by have:=h.2.2.2.1;omega,fun e he=>by have:=h.2.2.2.2 e he;omega⟩)
   (fun n d h=>⟨h.2.2.1.2,h.2.2.2.2.2.1⟩) fun _=>rfl
theorem ogas:OA Tryz.prog 23 1 (fun N (l:List Ga)=>(∀ a∈l,okGa N a)∧l.length < N) (fun l=>[.sl none 17 (l.map eGa)]):=oa_slice (by decide) Tryz.underlying23 (by kernel_rfl) oga
theorem okGa_small {N:Nat} (hN:N≤10000000) {a:Ga} (h:okGa N a):a.small:=by
 obtain ⟨k1,k2,k3,k4,k5⟩:=h;exact ⟨by omega,by omega,by omega,by omega,fun e he=>by have:=k5 e he;omega⟩
end
end Go.Proofs.YtifebijohmlnbaaGreat
