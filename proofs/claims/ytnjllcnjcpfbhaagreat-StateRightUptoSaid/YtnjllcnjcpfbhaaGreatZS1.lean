/- Parts. -/
import Derived.WalkKit
import Derived.ProofKit
import Derived.Below
import Derived.Laws.OwnMore
import Derived.Deep.MidRow
import Derived.Maps.AppendAt
import Derived.Control
import Derived.Deep.Quiet
import Derived.TacticsIn
import Derived.OrdersIn
import Derived.LoopNIn
import Derived.RangeFuncLeaves
import Derived.RangeFuncCalls
import Derived.RangeFuncRecord
import Derived.RangeFuncSeq
import Derived.Test.YtnjllcnjcpfbhaaGreatProg
import Derived.Tactics
import Derived.Laws.Small
import Derived.Laws.Cover3
import Derived.Laws.Pointers
import Derived.Deep.Slices
import Derived.Calls
import Derived.ArgAppend
import Derived.Deep.RegionLawGrows
import Derived.Laws.StructEq
import Derived.IntWalk
import Derived.Laws.MakeOwn
import Derived.DeepKeys
import Derived.MapKept
import Derived.WideShapes
import Derived.ChangeMaps4
import Derived.Laws.CopyRow
import Derived.Lib.ConvBytes
import Derived.Lib.AppendZeros
import Derived.Laws.BytesString
import Derived.Laws.Cells
import Derived.Lib.AppendZerosOnto
import Derived.Lib.Overlaps
import Derived.Lib.SliceRun
import Derived.Scope
import Derived.OpenShut
import Derived.Carry
import Derived.ChangeArms
import Derived.ChangeSame
import Derived.ChangeMaps5
import Derived.JoinedCond
import Derived.Deep.CondSized
namespace Go.Proofs.YtnjllcnjcpfbhaaGreat
set_option linter.unusedVariables false
set_option linter.unusedSimpArgs false
open Go.RowKit Tryz
set_option maxRecDepth 100000
set_option maxHeartbeats 8000000
inductive AV where
 | sc (v:Value)
 | sl (o:Option TypeId) (k:Nat) (s:List (List AV))
 | bp (b u off:Nat)
 | hd (b u:Nat)
 | ep (b u k i off:Nat)
 | rp (k:Nat) (s:List (List AV)) (i off:Nat)
 | ag (l:List AV)
 | tu (l:List AV)
 | gd (p:Bool) (a:AV)
 | fs (k:Nat) (s:List (List AV))
 | fn (f:Nat) (c:List AV)
 | hf (b u:Nat)
 | sb (b u k o n c:Nat)
 | de
 | ob (T:TypeId) (l:List AV)
 | mo (ks:List Value) (s:List (List AV))
 | vp (b u off:Nat)
 | pz (l:List (Nat×Nat))
def AV.leaf:AV->Bool
 | .sc _ | .sl _ _ _ | .ob _ _ | .mo _ _ | .de=>true
 | _=>false
instance:Inhabited AV:=⟨.de⟩
abbrev Ct:=Nat->Nat
abbrev Ct.z:Ct:=fun _=>0
abbrev Fi:=Nat->Nat->Option Nat
abbrev Ka:=Nat->Nat->Option Value
def Mk (w:World) (g:Nat) (cur:Array Value) (e:TypeId):Prop:=∃ z:Nat×Nat,w.heap[g]? = some (.cells cur e z)/\(z.1=z.2\/cur.size<=z.1)/\(e≠5->z=(0,0))
theorem Mk.of {w:World} {g:Nat} {cur:Array Value} {e:TypeId} (h:w.heap[g]? = some (.cells cur e (0,0))):Mk w g cur e:=⟨_,h,.inl rfl,fun _=>rfl⟩
theorem Mk.z0 {w:World} {g:Nat} {cur:Array Value} {e:TypeId} (h:Mk w g cur e) (he:e≠5):w.heap[g]? = some (.cells cur e (0,0)):=by
 obtain ⟨z,h1,_,h2⟩:=h;rw [h2 he] at h1;exact h1
theorem Mk.keep {w w':World} {g:Nat} {cur:Array Value} {e:TypeId} (hb:w'.heap[g]? = w.heap[g]?) (h:Mk w g cur e):Mk w' g cur e:=by
 obtain ⟨z,h1,h2⟩:=h;exact ⟨z,hb.trans h1,h2⟩
theorem Mk.lt {w:World} {g:Nat} {cur:Array Value} {e:TypeId} (h:Mk w g cur e):g < w.heap.size:=by
 obtain ⟨z,h1,_⟩:=h;exact (Array.getElem?_eq_some_iff.1 h1).1
theorem Mk.cell {w:World} {g:Nat} {cur:Array Value} {e:TypeId} (h:Mk w g cur e) (j:Nat):w.cell? ⟨g,j,none⟩=cur[j]?:=by
 obtain ⟨z,h1,_⟩:=h;exact cell_of_row w g j cur e z h1
theorem Mk.frozen {w:World} {g:Nat} {cur:Array Value} {e:TypeId} (h:Mk w g cur e) {j:Nat} (hj:j < cur.size):w.frozen? ⟨g,j,none⟩=false:=by
 obtain ⟨z,h1,h2,_⟩:=h;simp only [World.frozen?,h1];rcases h2 with h2|h2
 ·simp;omega
 ·simp;omega
structure MapIn (es:Array MapEntry) (clock:Nat) (ks us:List Value):Prop where
 ky:es.toList.map (·.key)=ks
 vl:es.toList.map (·.val)=us
 st:(es.toList.map (·.born)).Pairwise (· < ·)
 ck:∀ e∈es.toList,e.born < clock
def bdC:List AV->Bool
 | .sc .nilFunc :: _=>true
 | _=>false
def fnV (f:Nat) (b:Bool) (vs:List Value):Value:=match b with
 | true=>.func (.func f) (vs.drop 1).toArray #[]
 | false=>.func (.func f) #[] vs.toArray
def fnA (cap l:List AV):List AV:=match bdC cap with
 | true=>cap.drop 1 ++ l
 | false=>l ++ cap
def fnX (b:Bool) (cvs us:List Value):List Value:=match b with
 | true=>cvs.drop 1 ++ us
 | false=>us ++ cvs
mutual
inductive RV (w:World) (φ:Fi) (κ:Ka) (R:Nat->Prop):AV->Value->Ct->Prop
 | sc {v}:v.oneCell'=true->RV w φ κ R (.sc v) v Ct.z
 | bp {b u off g}:φ b u=some g->RV w φ κ R (.bp b u off) (.pointer (some ⟨g,off,none⟩)) Ct.z
 | ni {o k}:RV w φ κ R (.sl o k []) (.slice none 0 0) Ct.z
 | ne {o k A}:RV w φ κ R (.sl o k []) (.slice (some A) 0 0) Ct.z
 | ro {k s b o c us}:RE w φ κ R k s us Ct.z->s.length<=c->c<=maxLen->(s≠[]->R b)->(∀ j u,us[j]? = some u->w.cell? ⟨b,o + j,none⟩=some u)->RV w φ κ R (.sl none k s) (.slice (some ⟨b,o,none⟩) s.length c) Ct.z
 | om {e k s g cap cur us S T}:RE w φ κ R k s us S->Mk w g cur e->s.length<=cap->cap<=maxLen->cur.size=cap * k->cur.toList.take (s.length * k)=us->(∀ x,T x=(if x=g then 1 else 0) + S x)->RV w φ κ R (.sl (some e) k s) (.slice (some ⟨g,0,none⟩) s.length cap) T
 | hd {b u v}:κ b u=some v->v.oneCell'=true->RV w φ κ R (.hd b u) v Ct.z
 | ep {b u k i off g n c}:κ b u=some (.slice (some ⟨g,0,none⟩) n c)->RV w φ κ R (.ep b u k i off) (.pointer (some ⟨g,i * k + off,none⟩)) Ct.z
 | pz {l h c}:R h->(∀ (j:Nat) (p:Nat×Nat),l[j]? = some p->∃ g,φ p.1 p.2=some g/\w.cell? ⟨h,j,none⟩=some (.pointer (some ⟨g,0,none⟩)))->l.length<=c->c<=maxLen->RV w φ κ R (.pz l) (.slice (some ⟨h,0,none⟩) l.length c) Ct.z
 | vp {b u off g h o}:φ b u=some g->R h->w.cell? ⟨h,o,none⟩=some (.pointer (some ⟨g,off,none⟩))->RV w φ κ R (.vp b u off) (.pointer (some ⟨h,o,none⟩)) Ct.z
 | rp {k s b o i off us}:RE w φ κ R k s us Ct.z->R b->(∀ j u,us[j]? = some u->w.cell? ⟨b,o + j,none⟩=some u)->RV w φ κ R (.rp k s i off) (.pointer (some ⟨b,o + (i * k + off),none⟩)) Ct.z
 | ag {l vs S}:RC w φ κ R l vs S->(∀ u∈vs,u.oneCell'=true)->RV w φ κ R (.ag l) (.agg vs.toArray) S
 | tu {l vs S}:RC w φ κ R l vs S->RV w φ κ R (.tu l) (.tuple vs.toArray) S
 | de {v}:RV w φ κ R .de v Ct.z
 | gt {a v S}:RV w φ κ R a v S->RV w φ κ R (.gd true a) v S
 | gf {a}:RV w φ κ R (.gd false a) undef Ct.z
 | hf {b u A n c}:κ b u=some (.slice A n c)->RV w φ κ R (.hf b u) (.slice A n n) Ct.z
 | sb {b u k o n c g}:φ b u=some g->n<=c->c<=maxLen->RV w φ κ R (.sb b u k o n c) (.slice (some ⟨g,o,none⟩) n c) Ct.z
 | fn {f c vs S}:RC w φ κ R c vs S->RV w φ κ R (.fn f c) (fnV f (bdC c) vs) S
 | fs {k s v}:RV w φ κ R (.sl none k s) v Ct.z->(∃ A,v=.slice A s.length s.length)->RV w φ κ R (.fs k s) v Ct.z
 | ob {T l vs g S U}:RC w φ κ R l vs S->(∀ x∈l,x.leaf=true)->w.heap[g]? = some (.cells vs.toArray T (0,0))->(∀ v∈vs,v.oneCell'=true)->(∀ x,U x=(if x=g then 1 else 0) + S x)->RV w φ κ R (.ob T l) (.pointer (some ⟨g,0,none⟩)) U
 | mo {ks s g es clock us S U}:RE w φ κ R 1 s us S->w.heap[g]? = some (.map es clock)->MapIn es clock ks us->(∀ x,U x=(if x=g then 1 else 0) + S x)->RV w φ κ R (.mo ks s) (.map (some g)) U
inductive RE (w:World) (φ:Fi) (κ:Ka) (R:Nat->Prop):Nat->List (List AV)->List Value->Ct->Prop
 | nil {k}:RE w φ κ R k [] [] Ct.z
 | cons {k c s us vs S T U}:RC w φ κ R c us S->us.length=k->(∀ u∈us,u.oneCell'=true)/\(∀ x∈c,x.leaf=true)->RE w φ κ R k s vs T->(∀ x,U x=S x + T x)->RE w φ κ R k (c :: s) (us ++ vs) U
inductive RC (w:World) (φ:Fi) (κ:Ka) (R:Nat->Prop):List AV->List Value->Ct->Prop
 | nil:RC w φ κ R [] [] Ct.z
 | cons {a l v vs S T U}:RV w φ κ R a v S->RC w φ κ R l vs T->(∀ x,U x=S x + T x)->RC w φ κ R (a :: l) (v :: vs) U
end
theorem RV.ow {w:World} {φ:Fi} {κ:Ka} {R:Nat->Prop} {e:TypeId} {k:Nat} {s:List (List AV)} {g cap:Nat} {cur:Array Value} {us:List Value} {S T:Ct} (h1:RE w φ κ R k s us S) (h2:w.heap[g]? = some (.cells cur e (0,0))) (h3:s.length<=cap) (h4:cap<=maxLen) (h5:cur.size=cap * k) (h6:cur.toList.take (s.length * k)=us) (h7:∀ x,T x=(if x=g then 1 else 0) + S x):RV w φ κ R (.sl (some e) k s) (.slice (some ⟨g,0,none⟩) s.length cap) T:=.om h1 (Mk.of h2) h3 h4 h5 h6 h7
theorem Ct.split {S T:Ct} (h:∀ x,Ct.z x=S x + T x):S=Ct.z/\T=Ct.z:=
 ⟨funext fun x=>by have:=h x;simp only [Ct.z] at *;omega,funext fun x=>by have:=h x;simp only [Ct.z] at *;omega⟩
section
variable {w w':World} {φ φ':Fi} {κ κ':Ka} {R R':Nat->Prop}
mutual
theorem RV.hist (hφ:∀ b u g,φ b u=some g->φ' b u=some g) (hκ:∀ b u v,κ b u=some v->κ' b u=some v) (h:∀ b,R b->R' b):∀ {a v S},RV w φ κ R a v S->RV w φ' κ' R' a v S
 | _,_,_,.sc h1=>.sc h1
 | _,_,_,.bp h1=>.bp (hφ _ _ _ h1)
 | _,_,_,.ni=>.ni
 | _,_,_,.ne=>.ne
 | _,_,_,.ro he a b c d=>.ro (RE.hist hφ hκ h he) a b (fun e=>h _ (c e)) d
 | _,_,_,.om he a b c d e f=>.om (RE.hist hφ hκ h he) a b c d e f
 | _,_,_,.hd h1 h2=>.hd (hκ _ _ _ h1) h2
 | _,_,_,.ep h1=>.ep (hκ _ _ _ h1)
 | _,_,_,.rp he h1 h2=>.rp (RE.hist hφ hκ h he) (h _ h1) h2
 | _,_,_,.vp h1 h2 h3=>.vp (hφ _ _ _ h1) (h _ h2) h3
 | _,_,_,.pz h1 h2 a b=>.pz (h _ h1) (fun j p hp=>let ⟨g,c,d⟩:=h2 j p hp;⟨g,hφ _ _ _ c,d⟩) a b
 | _,_,_,.ag hc h1=>.ag (RC.hist hφ hκ h hc) h1
 | _,_,_,.tu hc=>.tu (RC.hist hφ hκ h hc)
 | _,_,_,.de=>.de
 | _,_,_,.gt h1=>.gt (RV.hist hφ hκ h h1)
 | _,_,_,.gf=>.gf
 | _,_,_,.fs h1 h2=>.fs (RV.hist hφ hκ h h1) h2
 | _,_,_,.fn hc=>.fn (RC.hist hφ hκ h hc)
 | _,_,_,.hf h1=>.hf (hκ _ _ _ h1)
 | _,_,_,.sb h1 h2 h3=>.sb (hφ _ _ _ h1) h2 h3
 | _,_,_,.ob hc a b c d=>.ob (RC.hist hφ hκ h hc) a b c d
 | _,_,_,.mo he a b c=>.mo (RE.hist hφ hκ h he) a b c
theorem RE.hist (hφ:∀ b u g,φ b u=some g->φ' b u=some g) (hκ:∀ b u v,κ b u=some v->κ' b u=some v) (h:∀ b,R b->R' b):∀ {k s us S},RE w φ κ R k s us S->RE w φ' κ' R' k s us S
 | _,_,_,_,.nil=>.nil
 | _,_,_,_,.cons a b o c d=>.cons (RC.hist hφ hκ h a) b o (RE.hist hφ hκ h c) d
theorem RC.hist (hφ:∀ b u g,φ b u=some g->φ' b u=some g) (hκ:∀ b u v,κ b u=some v->κ' b u=some v) (h:∀ b,R b->R' b):∀ {l us S},RC w φ κ R l us S->RC w φ' κ' R' l us S
 | _,_,_,.nil=>.nil
 | _,_,_,.cons a b c=>.cons (RV.hist hφ hκ h a) (RC.hist hφ hκ h b) c
end
theorem RE.one {k:Nat}:∀ {s:List (List AV)} {us:List Value} {S:Ct},RE w φ κ R k s us S->∀ u∈us,u.oneCell'=true
 | _,_,_,.nil=>fun u hu=>by cases hu
 | _,_,_,.cons _ _ o c _=>fun u hu=>(List.mem_append.1 hu).elim (o.1 u) (RE.one c u)
theorem RE.length {k:Nat}:∀ {s:List (List AV)} {us:List Value} {S:Ct},RE w φ κ R k s us S->us.length=s.length * k
 | _,_,_,.nil=>by simp
 | _,_,_,.cons a b o c d=>by simp [RE.length c,b,Nat.add_mul,Nat.add_comm]
theorem RE.nils {k:Nat} {us:List Value} {S:Ct} (h:RE w φ κ R k [] us S):us=[]:=by cases h;rfl
mutual
theorem RV.keep (h:∀ b,R b->w'.heap[b]? = w.heap[b]?):∀ {a v S},RV w φ κ R a v S->(∀ b,S b≠0->w'.heap[b]? = w.heap[b]?)->RV w' φ κ R a v S
 | _,_,_,.sc h1,_=>.sc h1
 | _,_,_,.bp h1,_=>.bp h1
 | _,_,_,.ni,_=>.ni
 | _,_,_,.ne,_=>.ne
 | _,_,_,.ro (k:=k) (s:=s) (us:=us) he a b c d,_=>.ro (RE.keep h he (fun b hb=>absurd rfl hb)) a b c (fun j u hj=>by
  have hs:s≠[]:=by rintro rfl;rw [RE.nils he] at hj;simp at hj
  rw [World.cell?_of_block (a:=⟨_,_,none⟩) (h _ (c hs))];exact d j u hj)
 | _,_,_,.om he a b c d e f,hS=>.om (RE.keep h he (fun x hx=>hS x (by rw [f x];omega))) (Mk.keep (hS _ (by rw [f];simp)) a) b c d e f
 | _,_,_,.hd h1 h2,_=>.hd h1 h2
 | _,_,_,.ep h1,_=>.ep h1
 | _,_,_,.pz h1 h2 a b,_=>.pz h1 (fun j p hp=>let ⟨g,c,d⟩:=h2 j p hp;⟨g,c,by rw [World.cell?_of_block (a:=⟨_,_,none⟩) (h _ h1)];exact d⟩) a b
 | _,_,_,.vp h1 h2 h3,_=>.vp h1 h2 (by rw [World.cell?_of_block (a:=⟨_,_,none⟩) (h _ h2)];exact h3)
 | _,_,_,.rp he h1 h2,_=>.rp (RE.keep h he (fun b hb=>absurd rfl hb)) h1 (fun j u hj=>by
  rw [World.cell?_of_block (a:=⟨_,_,none⟩) (h _ h1)];exact h2 j u hj)
 | _,_,_,.ag hc h1,hS=>.ag (RC.keep h hc hS) h1
 | _,_,_,.tu hc,hS=>.tu (RC.keep h hc hS)
 | _,_,_,.de,_=>.de
 | _,_,_,.gt h1,hS=>.gt (RV.keep h h1 hS)
 | _,_,_,.gf,_=>.gf
 | _,_,_,.fs h1 h2,_=>.fs (RV.keep h h1 fun b hb=>absurd rfl hb) h2
 | _,_,_,.fn hc,hS=>.fn (RC.keep h hc hS)
 | _,_,_,.hf h1,_=>.hf h1
 | _,_,_,.sb h1 h2 h3,_=>.sb h1 h2 h3
 | _,_,_,.ob hc a b c d,hS=>.ob (RC.keep h hc (fun x hx=>hS x (by rw [d x];omega))) a ((hS _ (by rw [d];simp)).trans b) c d
 | _,_,_,.mo he a b c,hS=>.mo (RE.keep h he (fun x hx=>hS x (by rw [c x];omega))) ((hS _ (by rw [c];simp)).trans a) b c
theorem RE.keep (h:∀ b,R b->w'.heap[b]? = w.heap[b]?):∀ {k s us S},RE w φ κ R k s us S->(∀ b,S b≠0->w'.heap[b]? = w.heap[b]?)->RE w' φ κ R k s us S
 | _,_,_,_,.nil,_=>.nil
 | _,_,_,_,.cons a b o c d,hS=>.cons (RC.keep h a (fun x hx=>hS x (by rw [d x];omega))) b o (RE.keep h c (fun x hx=>hS x (by rw [d x];omega))) d
theorem RC.keep (h:∀ b,R b->w'.heap[b]? = w.heap[b]?):∀ {l us S},RC w φ κ R l us S->(∀ b,S b≠0->w'.heap[b]? = w.heap[b]?)->RC w' φ κ R l us S
 | _,_,_,.nil,_=>.nil
 | _,_,_,.cons a b c,hS=>.cons (RV.keep h a (fun x hx=>hS x (by rw [c x];omega))) (RC.keep h b (fun x hx=>hS x (by rw [c x];omega))) c
end
mutual
theorem RV.keepC (h:∀ b,R b->∀ (o:Nat) (v:Value),w.cell? ⟨b,o,none⟩=some v->w'.cell? ⟨b,o,none⟩=some v):∀ {a v S},RV w φ κ R a v S->(∀ b,S b≠0->w'.heap[b]? = w.heap[b]?)->RV w' φ κ R a v S
 | _,_,_,.sc h1,_=>.sc h1
 | _,_,_,.bp h1,_=>.bp h1
 | _,_,_,.ni,_=>.ni
 | _,_,_,.ne,_=>.ne
 | _,_,_,.ro (k:=k) (s:=s) (us:=us) he a b c d,_=>.ro (RE.keepC h he (fun b hb=>absurd rfl hb)) a b c (fun j u hj=>by
  have hs:s≠[]:=by rintro rfl;rw [RE.nils he] at hj;simp at hj
  exact h _ (c hs) _ _ (d j u hj))
 | _,_,_,.om he a b c d e f,hS=>.om (RE.keepC h he (fun x hx=>hS x (by rw [f x];omega))) (Mk.keep (hS _ (by rw [f];simp)) a) b c d e f
 | _,_,_,.hd h1 h2,_=>.hd h1 h2
 | _,_,_,.ep h1,_=>.ep h1
 | _,_,_,.vp h1 h2 h3,_=>.vp h1 h2 (h _ h2 _ _ h3)
 | _,_,_,.pz h1 h2 a b,_=>.pz h1 (fun j p hp=>let ⟨g,c,d⟩:=h2 j p hp;⟨g,c,h _ h1 _ _ d⟩) a b
 | _,_,_,.rp he h1 h2,_=>.rp (RE.keepC h he (fun b hb=>absurd rfl hb)) h1 (fun j u hj=>by
  exact h _ h1 _ _ (h2 j u hj))
 | _,_,_,.ag hc h1,hS=>.ag (RC.keepC h hc hS) h1
 | _,_,_,.tu hc,hS=>.tu (RC.keepC h hc hS)
 | _,_,_,.de,_=>.de
 | _,_,_,.gt h1,hS=>.gt (RV.keepC h h1 hS)
 | _,_,_,.gf,_=>.gf
 | _,_,_,.fs h1 h2,_=>.fs (RV.keepC h h1 fun b hb=>absurd rfl hb) h2
 | _,_,_,.fn hc,hS=>.fn (RC.keepC h hc hS)
 | _,_,_,.hf h1,_=>.hf h1
 | _,_,_,.sb h1 h2 h3,_=>.sb h1 h2 h3
 | _,_,_,.ob hc a b c d,hS=>.ob (RC.keepC h hc (fun x hx=>hS x (by rw [d x];omega))) a ((hS _ (by rw [d];simp)).trans b) c d
 | _,_,_,.mo he a b c,hS=>.mo (RE.keepC h he (fun x hx=>hS x (by rw [c x];omega))) ((hS _ (by rw [c];simp)).trans a) b c
theorem RE.keepC (h:∀ b,R b->∀ (o:Nat) (v:Value),w.cell? ⟨b,o,none⟩=some v->w'.cell? ⟨b,o,none⟩=some v):∀ {k s us S},RE w φ κ R k s us S->(∀ b,S b≠0->w'.heap[b]? = w.heap[b]?)->RE w' φ κ R k s us S
 | _,_,_,_,.nil,_=>.nil
 | _,_,_,_,.cons a b o c d,hS=>.cons (RC.keepC h a (fun x hx=>hS x (by rw [d x];omega))) b o (RE.keepC h c (fun x hx=>hS x (by rw [d x];omega))) d
theorem RC.keepC (h:∀ b,R b->∀ (o:Nat) (v:Value),w.cell? ⟨b,o,none⟩=some v->w'.cell? ⟨b,o,none⟩=some v):∀ {l us S},RC w φ κ R l us S->(∀ b,S b≠0->w'.heap[b]? = w.heap[b]?)->RC w' φ κ R l us S
 | _,_,_,.nil,_=>.nil
 | _,_,_,.cons a b c,hS=>.cons (RV.keepC h a (fun x hx=>hS x (by rw [c x];omega))) (RC.keepC h b (fun x hx=>hS x (by rw [c x];omega))) c
end
inductive NR:AV->Prop
 | sc {v}:NR (.sc v)
 | bp {b u off}:NR (.bp b u off)
 | ni {o k}:NR (.sl o k [])
 | ow {e k s}:(∀ c∈s,∀ a∈c,NR a)->NR (.sl (some e) k s)
 | ag {l}:(∀ a∈l,NR a)->NR (.ag l)
 | tu {l}:(∀ a∈l,NR a)->NR (.tu l)
 | hd {b u}:NR (.hd b u)
 | fn {f c}:(∀ a∈c,NR a)->NR (.fn f c)
 | hf {b u}:NR (.hf b u)
 | sb {b u k o n c}:NR (.sb b u k o n c)
 | ep {b u k i off}:NR (.ep b u k i off)
 | de:NR .de
 | gd {p a}:NR a->NR (.gd p a)
 | ob {T l}:(∀ a∈l,NR a)->NR (.ob T l)
 | mo {ks s}:(∀ c∈s,∀ a∈c,NR a)->NR (.mo ks s)
mutual
theorem RV.nr (R':Nat->Prop):∀ {a v S},RV w φ κ R a v S->NR a->RV w φ κ R' a v S
 | _,_,_,.sc h1,_=>.sc h1
 | _,_,_,.bp h1,_=>.bp h1
 | _,_,_,.ni,_=>.ni
 | _,_,_,.ne,_=>.ne
 | _,_,_,.ro he a b c d,hn=>by
  cases hn
  have:=RE.nils he;subst this;exact .ro .nil a b (fun e=>absurd rfl e) d
 | _,_,_,.om he a b c d e f,hn=>.om (RE.nr R' he (by cases hn with|ni=>(intro c hc;cases hc)|ow h=>exact h)) a b c d e f
 | _,_,_,.hd h1 h2,_=>.hd h1 h2
 | _,_,_,.ep h1,_=>.ep h1
 | _,_,_,.rp he h1 h2,hn=>by cases hn
 | _,_,_,.vp _ _ _,hn=>by cases hn
 | _,_,_,.pz _ _ _ _,hn=>by cases hn
 | _,_,_,.ag hc h1,hn=>.ag (RC.nr R' hc (by cases hn with|ag h=>exact h)) h1
 | _,_,_,.tu hc,hn=>.tu (RC.nr R' hc (by cases hn with|tu h=>exact h))
 | _,_,_,.de,_=>.de
 | _,_,_,.gt h1,hn=>.gt (RV.nr R' h1 (by cases hn with|gd h=>exact h))
 | _,_,_,.gf,_=>.gf
 | _,_,_,.fs _ _,hn=>by cases hn
 | _,_,_,.fn hc,hn=>.fn (RC.nr R' hc (by cases hn with|fn h=>exact h))
 | _,_,_,.hf h1,_=>.hf h1
 | _,_,_,.sb h1 h2 h3,_=>.sb h1 h2 h3
 | _,_,_,.ob hc a b c d,hn=>.ob (RC.nr R' hc (by cases hn with|ob h=>exact h)) a b c d
 | _,_,_,.mo he a b c,hn=>.mo (RE.nr R' he (by cases hn with|mo h=>exact h)) a b c
theorem RE.nr (R':Nat->Prop):∀ {k s us S},RE w φ κ R k s us S->(∀ c∈s,∀ a∈c,NR a)->RE w φ κ R' k s us S
 | _,_,_,_,.nil,_=>.nil
 | _,_,_,_,.cons a b o c d,hn=>.cons (RC.nr R' a (hn _ (by simp))) b o (RE.nr R' c (fun c hc=>hn c (List.mem_cons_of_mem _ hc))) d
theorem RC.nr (R':Nat->Prop):∀ {l us S},RC w φ κ R l us S->(∀ a∈l,NR a)->RC w φ κ R' l us S
 | _,_,_,.nil,_=>.nil
 | _,_,_,.cons a b c,hn=>.cons (RV.nr R' a (hn _ (by simp))) (RC.nr R' b (fun c hc=>hn c (List.mem_cons_of_mem _ hc))) c
end
mutual
def AV.ro:AV->AV
 | .sl _ k s=>.sl none k (roE s)
 | .ag l=>.ag (roC l)
 | .tu l=>.tu (roC l)
 | .fn f l=>.fn f (roC l)
 | .gd p a=>.gd p a.ro
 | .sc v=>.sc v
 | .bp b u off=>.bp b u off
 | .hd b u=>.hd b u
 | .ep b u k i off=>.ep b u k i off
 | .rp k s i off=>.rp k s i off
 | .vp b u off=>.vp b u off
 | .pz l=>.pz l
 | .fs k s=>.fs k s
 | .hf b u=>.hf b u
 | .sb b u k o n c=>.sb b u k o n c
 | .de=>.de
 | .ob _ _=>.de
 | .mo _ _=>.de
def roE:List (List AV)->List (List AV)
 | []=>[]
 | c :: s=>roC c :: roE s
def roC:List AV->List AV
 | []=>[]
 | a :: l=>a.ro :: roC l
end
theorem fnV_one (f:Nat) (b:Bool) (vs:List Value):(fnV f b vs).oneCell'=true:=by cases b<;>rfl
theorem fnV_cells (f:Nat) (b:Bool) (vs:List Value):(fnV f b vs).cells.toList=[fnV f b vs]:=by cases b<;>rfl
theorem bdC_hd (a:AV) (l m:List AV):bdC (a :: l)=bdC (a :: m):=by cases a<;>first|rfl|(rename_i v;cases v<;>rfl)
theorem bdC_ro:∀ c:List AV,bdC (roC c)=bdC c
 | []=>rfl
 | a :: l=>by rw [roC];cases a<;>first|rfl|(simp only [AV.ro];exact bdC_hd _ _ _)
theorem AV.ro_leaf:∀ a:AV,a.leaf=true->a.ro.leaf=true
 | .sc _,_=>rfl
 | .sl _ _ _,_=>rfl
 | .ob _ _,_=>rfl
 | .mo _ _,_=>rfl
 | .de,_=>rfl
theorem leaf_roC:∀ {c:List AV},(∀ x∈c,x.leaf=true)->∀ x∈roC c,x.leaf=true
 | [],_=>fun x hx=>by simp [roC] at hx
 | a :: l,h=>fun x hx=>by
  simp only [roC,List.mem_cons] at hx;rcases hx with rfl|hx
  ·exact AV.ro_leaf a (h a (by simp))
  ·exact leaf_roC (fun y hy=>h y (List.mem_cons_of_mem _ hy)) x hx
theorem roE_length:∀ s,(roE s).length=s.length
 | []=>rfl
 | _ :: s=>by simp [roE,roE_length s]
theorem roE_map {α:Type} (enc:α->List AV):∀ l:List α,roE (l.map enc)=l.map fun x=>roC (enc x)
 | []=>rfl
 | x :: l=>by simp [roE,roE_map enc l]
mutual
theorem RV.ro_:∀ {a v S},RV w φ κ R a v S->RV w φ κ (fun b=>R b\/S b≠0) a.ro v Ct.z
 | _,_,_,.sc h1=>.sc h1
 | _,_,_,.bp h1=>.bp h1
 | _,_,_,.ni=>.ni
 | _,_,_,.ne=>.ne
 | _,_,_,.ro (s:=s) he a b c d=>by
  have:=RV.ro (RE.ro_ he) (by rw [roE_length];exact a) b (fun h=>.inl (c (by rintro rfl;exact h rfl))) d;rw [roE_length] at this;exact this
 | _,_,T,.om (k:=k) (s:=s) (g:=g) (cur:=cur) he a b c d e f=>by
  have hg:T g≠0:=by rw [f];simp
  have he':=RE.hist (φ':=φ) (κ':=κ) (R':=fun b=>R b\/T b≠0) (fun _ _ _ h=>h) (fun _ _ _ h=>h) (fun x hx=>hx.imp id (fun h0=>by rw [f x];omega)) (RE.ro_ he)
  have:=RV.ro he' (by rw [roE_length];exact b) c (fun h=>.inr hg) (b:=g) (o:=0) (fun j u hj=>by
   rw [a.cell (0 + j)];have h1:(cur.toList.take (s.length * k))[j]? = some u:=by rw [e];exact hj
   rw [List.getElem?_take] at h1;split at h1
   ·simpa using h1
   ·cases h1)
  rw [roE_length] at this;exact this
 | _,_,_,.hd h1 h2=>.hd h1 h2
 | _,_,_,.ep h1=>.ep h1
 | _,_,_,.rp he h1 h2=>.rp (RE.hist (fun _ _ _ h=>h) (fun _ _ _ h=>h) (fun _ h=>.inl h) he) (.inl h1) h2
 | _,_,_,.vp h1 h2 h3=>.vp h1 (.inl h2) h3
 | _,_,_,.pz h1 h2 a b=>.pz (.inl h1) h2 a b
 | _,_,_,.ag hc h1=>.ag (RC.ro_ hc) h1
 | _,_,_,.tu hc=>.tu (RC.ro_ hc)
 | _,_,_,.de=>.de
 | _,_,_,.gt (a:=a) h1=>.gt (RV.ro_ h1)
 | _,_,_,.gf=>.gf
 | _,_,_,.fs h1 h2=>.fs (RV.hist (fun _ _ _ h=>h) (fun _ _ _ h=>h) (fun _ h=>.inl h) h1) h2
 | _,_,_,.fn hc=>by rw [←bdC_ro];exact .fn (RC.ro_ hc)
 | _,_,_,.hf h1=>.hf h1
 | _,_,_,.sb h1 h2 h3=>.sb h1 h2 h3
 | _,_,_,.ob _ _ _ _ _=>.de
 | _,_,_,.mo _ _ _ _=>.de
theorem RE.ro_:∀ {k s us S},RE w φ κ R k s us S->RE w φ κ (fun b=>R b\/S b≠0) k (roE s) us Ct.z
 | _,_,_,_,.nil=>.nil
 | _,_,_,_,.cons a b o c d=>.cons (S:=Ct.z) (T:=Ct.z) (RC.hist (fun _ _ _ h=>h) (fun _ _ _ h=>h) (fun x hx=>hx.imp id (fun h0=>by rw [d x];omega)) (RC.ro_ a)) b ⟨o.1,leaf_roC o.2⟩
  (RE.hist (fun _ _ _ h=>h) (fun _ _ _ h=>h) (fun x hx=>hx.imp id (fun h0=>by rw [d x];omega)) (RE.ro_ c)) (fun _=>rfl)
theorem RC.ro_:∀ {l us S},RC w φ κ R l us S->RC w φ κ (fun b=>R b\/S b≠0) (roC l) us Ct.z
 | _,_,_,.nil=>.nil
 | _,_,_,.cons a b c=>.cons (S:=Ct.z) (T:=Ct.z) (RV.hist (fun _ _ _ h=>h) (fun _ _ _ h=>h) (fun x hx=>hx.imp id (fun h0=>by rw [c x];omega)) (RV.ro_ a))
  (RC.hist (fun _ _ _ h=>h) (fun _ _ _ h=>h) (fun x hx=>hx.imp id (fun h0=>by rw [c x];omega)) (RC.ro_ b)) (fun _=>rfl)
end
theorem RC.length:∀ {l us S},RC w φ κ R l us S->us.length=l.length
 | _,_,_,.nil=>rfl
 | _,_,_,.cons _ b _=>by simp [RC.length b]
theorem RC.at_:∀ {l:List AV} {us:List Value},RC w φ κ R l us Ct.z->∀ {i:Nat} {a:AV},l[i]? = some a->∃ v,us[i]? = some v/\RV w φ κ R a v Ct.z
 | _,_,.nil,i,a,h=>by simp at h
 | _,_,.cons (S:=S) (T:=T) h1 b c,i,a,h=>by
  obtain ⟨rfl,rfl⟩:=Ct.split c
  cases i with
  | zero=>simp at h;subst h;exact ⟨_,by simp,h1⟩
  | succ i=>simp at h;obtain ⟨v,hv,hr⟩:=RC.at_ b h;exact ⟨v,by simpa using hv,hr⟩
theorem RC.of_at {l:List AV} {us:List Value} (hl:us.length=l.length) (h:∀ (i:Nat) (a:AV),l[i]? = some a->∃ v,us[i]? = some v/\RV w φ κ R a v Ct.z):RC w φ κ R l us Ct.z:=by
 induction l generalizing us with
 | nil=>cases us with
  | nil=>exact .nil
  | cons _ _=>simp at hl
 | cons a l ih=>cases us with
  | nil=>simp at hl
  | cons v us=>
   obtain ⟨v',hv,hr⟩:=h 0 a rfl;simp at hv;subst hv
   exact .cons (S:=Ct.z) (T:=Ct.z) hr (ih (by simpa using hl) fun i a hi=>by simpa using h (i + 1) a (by simpa using hi)) fun _=>rfl
theorem RC.set_ {l:List AV} {us:List Value} {i:Nat} {a:AV} {v:Value} (h:RC w φ κ R l us Ct.z) (ha:RV w φ κ R a v Ct.z):RC w φ κ R (l.set i a) (us.set i v) Ct.z:=
 RC.of_at (by simp [h.length]) fun j b hb=>by
  rw [List.getElem?_set] at hb ⊢
  by_cases hij:i=j
  ·rw [if_pos hij] at hb ⊢
   by_cases hil:i < l.length
   ·rw [if_pos hil] at hb;rw [if_pos (by rw [h.length];exact hil)]
    injection hb with hb;subst hb
    exact ⟨v,rfl,ha⟩
   ·rw [if_neg hil] at hb;cases hb
  ·rw [if_neg hij] at hb ⊢;exact h.at_ hb
theorem RC.append {l m:List AV} {us vs:List Value} {S T U:Ct} (h:RC w φ κ R l us S) (k:RC w φ κ R m vs T) (hU:∀ x,U x=S x + T x):RC w φ κ R (l ++ m) (us ++ vs) U:=by
 induction l generalizing us S U with
 | nil=>
  cases h
  have:U=T:=funext fun x=>by have:=hU x;simp only [Ct.z] at this;omega
  subst this;exact k
 | cons a l ih=>
  cases h with
  | cons h1 h2 h3=>exact .cons h1 (ih h2 fun _=>rfl) fun x=>by rw [hU,h3];omega
theorem RE.append {k:Nat} {s r:List (List AV)} {us vs:List Value} {S T U:Ct} (h:RE w φ κ R k s us S) (h':RE w φ κ R k r vs T) (hU:∀ x,U x=S x + T x):RE w φ κ R k (s ++ r) (us ++ vs) U:=by
 induction s generalizing us S U with
 | nil=>
  cases h
  have:U=T:=funext fun x=>by have:=hU x;simp only [Ct.z] at this;omega
  subst this;exact h'
 | cons a l ih=>
  cases h with
  | cons h1 h2 o h3 h4=>rw [List.append_assoc];exact .cons h1 h2 o (ih h3 fun _=>rfl) fun x=>by rw [hU,h4];omega
theorem RE.at_ {k:Nat}:∀ {s:List (List AV)} {us:List Value},RE w φ κ R k s us Ct.z->∀ {i:Nat} {c:List AV},s[i]? = some c->∃ cs,RC w φ κ R c cs Ct.z/\cs.length=k/\((∀ u∈cs,u.oneCell'=true)/\∀ x∈c,x.leaf=true)/\∀ j u,cs[j]? = some u->us[i * k + j]? = some u
 | _,_,.nil,i,a,h=>by simp at h
 | _,_,.cons (us:=us) (vs:=vs) h1 hk o b c,i,a,h=>by
  obtain ⟨rfl,rfl⟩:=Ct.split c
  cases i with
  | zero=>
   simp at h;subst h
   refine ⟨us,h1,hk,o,fun j u hu=>?_⟩;have hj:j < us.length:=(List.getElem?_eq_some_iff.1 hu).1
   simpa [List.getElem?_append_left hj] using hu
  | succ i=>
   simp at h;obtain ⟨cs,hr,hl,ho,hc⟩:=RE.at_ b h;refine ⟨cs,hr,hl,ho,fun j u hu=>?_⟩;rw [List.getElem?_append_right (by rw [hk,Nat.add_mul];omega),hk];rw [show (i + 1) * k + j - k=i * k + j by rw [Nat.add_mul];omega];exact hc j u hu
mutual
theorem RV.any (φ':Fi) (κ':Ka):∀ {a v S},RV w φ κ R a v S->a.leaf=true->RV w φ' κ' R a v S
 | _,_,_,.sc h1,_=>.sc h1
 | _,_,_,.ni,_=>.ni
 | _,_,_,.ne,_=>.ne
 | _,_,_,.ro he a b c d,_=>.ro (RE.any φ' κ' he) a b c d
 | _,_,_,.om he a b c d e f,_=>.om (RE.any φ' κ' he) a b c d e f
 | _,_,_,.ob hc a b c d,_=>.ob (RC.any φ' κ' hc a) a b c d
 | _,_,_,.mo he a b c,_=>.mo (RE.any φ' κ' he) a b c
 | _,_,_,.de,_=>.de
theorem RE.any (φ':Fi) (κ':Ka):∀ {k s us S},RE w φ κ R k s us S->RE w φ' κ' R k s us S
 | _,_,_,_,.nil=>.nil
 | _,_,_,_,.cons a b o c d=>.cons (RC.any φ' κ' a o.2) b o (RE.any φ' κ' c) d
theorem RC.any (φ':Fi) (κ':Ka):∀ {l us S},RC w φ κ R l us S->(∀ x∈l,x.leaf=true)->RC w φ' κ' R l us S
 | _,_,_,.nil,_=>.nil
 | _,_,_,.cons a b c,h=>.cons (RV.any φ' κ' a (h _ (by simp))) (RC.any φ' κ' b fun x hx=>h x (List.mem_cons_of_mem _ hx)) c
end
def AV.cp:AV->AV
 | .sl (some _) _ _=>.de
 | .ob _ _=>.de
 | .mo _ _=>.de
 | a=>a
theorem RV.cp {a:AV} {v:Value} {S:Ct} (h:RV w φ κ R a v S) (hl:a.leaf=true):RV w φ κ R a.cp v Ct.z:=by
 cases h with
 | sc h=>exact .sc h
 | @ni o k=>cases o;exact .ni;exact .de
 | @ne o k=>cases o;exact .ne;exact .de
 | ro a b c d e=>exact .ro a b c d e
 | om=>exact .de
 | ob=>exact .de
 | mo=>exact .de
 | de=>exact .de
 | _=>cases hl
theorem RC.cp:∀ {l:List AV} {us:List Value} {S:Ct},RC w φ κ R l us S->(∀ x∈l,x.leaf=true)->RC w φ κ R (l.map AV.cp) us Ct.z
 | _,_,_,.nil,_=>.nil
 | _,_,_,.cons a b _,h=>.cons (S:=Ct.z) (T:=Ct.z) (RV.cp a (h _ (by simp))) (RC.cp b fun x hx=>h x (List.mem_cons_of_mem _ hx)) fun _=>rfl
end
def Fw:Option Nat->Fence
 | none=>Fence.wide
 | some l=>Fence.wide.inRound l
theorem Fw_fn (ρ:Option Nat) (f:Nat):(Fw ρ).fn f:=by cases ρ<;>trivial
theorem Fw_round (ρ:Option Nat):(Fw ρ).round=ρ:=by cases ρ<;>rfl
theorem Fw_depth (ρ:Option Nat):(Fw ρ).depth=none:=by cases ρ<;>rfl
section
variable {P:Program} {ρ:Option Nat} {ops:Array Oper} {o:Oper} {a:Act} {w w':World} {next:Act->World->Prop} {Q:Exit->Act->World->Prop} {rest:List Oper}
theorem callsFw {n f:Nat} {args:Array Value} {R:Ending->World->Prop}:CallsIn (Fw ρ) n P f args w R↔Calls P f args w R:=by
 cases ρ with
 | none=>exact callsIn_wide
 | some l=>exact ⟨fun h=>callsIn_wide.1 (show CallsIn Fence.wide n P f args w R from CallsIn.outOfRound h),fun h=>CallsIn.inRound l (callsIn_wide.2 h)⟩
abbrev wpO (ρ:Option Nat) (P:Program) (o:Oper) (a:Act) (w:World) (next:Act->World->Prop) (Q:Exit->Act->World->Prop):Prop:=o.wpIn (Fw ρ) 0 P a w next Q
abbrev wpL (ρ:Option Nat) (P:Program) (ops:Array Oper) (Q:Exit->Act->World->Prop) (l:List Oper) (a:Act) (w:World):Prop:=wpListIn (Fw ρ) 0 P ops Q l a w
abbrev wpC (ρ:Option Nat) (P:Program) (c:Code) (Q:Exit->Act->World->Prop) (a:Act) (w:World):Prop:=c.wpIn (Fw ρ) 0 P Q a w
theorem semAt_of {ev:Operand->Value} {x:Next} (h:(execOp ev o).run P w=.ok x w') (hx:∀ d,x≠.defer d):(o.semAt (Fw ρ).round ev).run P w=.ok x w':=by
 rw [Fw_round]
 cases ρ with
 | none=>exact h
 | some l=>
  by_cases hd:∃ c,o.op=.defer c
  ·obtain ⟨c,hd⟩:=hd;exfalso;simp only [execOp,hd,Sem.run_bind,Sem.run_pure] at h;generalize (resolve ev c o.type).run P w=r at h
   cases r with
   | ok d w1=>simp [Result.andThen] at h;exact hx d h.1.symm
   | halt x w1=>simp [Result.andThen] at h
  ·rw [Oper.semAt_eq]
   ·exact h
   ·exact fun c hc=>hd ⟨c,hc⟩
theorem wpO_val {v:Value} (h:(execOp a.eval o).run P w=.ok (.value v) w') (k:next (a.put o.dst v) w'):wpO ρ P o a w next Q:=
 ⟨fun _ _=>Fw_fn _ _,by rw [semAt_of h (fun d=>by simp)];exact k⟩
theorem wpO_skip (h:(execOp a.eval o).run P w=.ok .skip w') (k:next (a.put o.dst undef) w'):wpO ρ P o a w next Q:=
 ⟨fun _ _=>Fw_fn _ _,by rw [semAt_of h (fun d=>by simp)];exact k⟩
theorem wpO_enter {f:Nat} {args:Array Value} (h:(execOp a.eval o).run P w=.ok (.enter f args) w') (k:Calls P f args w' fun e w''=>∃ v,e=.returned v/\next (a.put o.dst v) w''):wpO ρ P o a w next Q:=
 ⟨fun _ _=>Fw_fn _ _,by
  rw [semAt_of h (fun d=>by simp)];refine ⟨fun hd=>(by rw [Fw_depth] at hd;simp at hd),callsFw.2 (k.mono ?_)⟩;rintro e w'' ⟨v,rfl,hv⟩;exact hv⟩
theorem wpO_quiet {C:World->Prop} {v:Value} (hw:C w) (h:o.quietAt P a C w v) (k:∀ w',C w'->next (a.put o.dst v) w'):wpO ρ P o a w next Q:=by
 unfold Oper.quietAt at h;generalize hr:(execOp a.eval o).run P w=r at h
 cases r with
 | ok x w'=>
  cases x<;>simp only [Oper.quietUpon] at h
  case value u=>
   obtain ⟨rfl,rfl⟩:=h;exact wpO_val hr (k _ hw)
  case skip=>
   obtain ⟨rfl,rfl⟩:=h;exact wpO_skip hr (k _ hw)
  case enter f args=>
   obtain ⟨rfl,hc⟩:=h;exact wpO_enter hr (hc.mono fun e w'' ⟨he,hw''⟩=>⟨v,he,k _ hw''⟩)
 | halt x w'=>simp only [Oper.quietUpon] at h
theorem wpL_plain (hg:o.guard=none) (h:∀ K:Act->World->Prop,(∀ a w,wpL ρ P ops Q rest a w->K a w)->wpO ρ P o a w K Q):wpL ρ P ops Q (o :: rest) a w:=wpListIn_plain hg h
theorem wpL_cons:wpL ρ P ops Q (o :: rest) a w↔(if Region.wanted o (yielded ops a.tmps) then wpO ρ P o a w (wpL ρ P ops Q rest) Q else wpL ρ P ops Q rest (a.put o.dst undef) w):=by
 show (if Region.wanted o (yielded ops a.tmps) then _ else _)↔_
 split
 ·exact Iff.rfl
 ·exact ⟨fun h=>h.2,fun h=>⟨fun _ _=>Fw_fn _ _,h⟩⟩
theorem wpO_turn {next':Act->World->Prop} {Q':Exit->Act->World->Prop} (hK:∀ e a w,Q e a w->e=.normal) (hn:∀ a' w',(∃ v,a'.tmps=(a.put o.dst v).tmps)->next a' w'->next' a' w') (h:wpO ρ P o a w next Q):wpO ρ P o a w next' Q':=by
 refine ⟨h.1,?_⟩;have h:=h.2;generalize (o.semAt (Fw ρ).round a.eval).run P w=r at *
 cases r with
 | ok n w'=>
  cases n<;>simp only [Oper.uponIn] at h ⊢
  case value v=>exact hn _ _ ⟨v,rfl⟩ h
  case skip=>exact hn _ _ ⟨_,rfl⟩ h
  case defer d=>exact hn _ _ ⟨undef,by cases o.dst<;>rfl⟩ h
  case enter f args=>
   exact ⟨h.1,h.2.mono fun e w'' he=>by
    cases e with
    | returned u=>exact hn _ _ ⟨u,rfl⟩ he
    | panicked c=>cases hK _ _ _ he
    | outgrown=>(obtain ⟨a',w',h'⟩:=he;cases hK _ _ _ h')⟩
  case round l f tmps assign body=>
   exact ⟨h.1,h.2.mono fun e w'' he=>by
    cases e with
    | returned u=>exact hn _ _ ⟨u,rfl⟩ he
    | panicked c=>cases hK _ _ _ he
    | outgrown=>(obtain ⟨a',w',h'⟩:=he;cases hK _ _ _ h')⟩
  case row r args=>exact ⟨h.1,h.2.mono fun u w'' he=>hn _ _ ⟨u,rfl⟩ he⟩
 | halt x w'=>
  cases x<;>simp only [Oper.uponIn] at h ⊢
  case panic u=>cases hK _ _ _ h
end
abbrev Jt:=World->Ct->(Nat->Prop)->Prop
inductive Bx where
 | c (T:TypeId) (l:List AV)
 | r (e:TypeId) (k:Nat) (s:List (List AV))
 | x
 | o
 | y (J:Jt)
 | f (e:TypeId) (k:Nat) (s:List (List AV)) (i:Nat) (c:List AV)
 | m (ks:List Value) (s:List (List AV)) (o:Option (Nat×List AV)) (st:Option (Nat×Nat×Nat))
 | w (e:TypeId) (l:List AV)
def AV.isDe:AV->Bool
 | .de=>true
 | _=>false
def Bx.isY:Bx->Bool
 | .y _=>true
 | _=>false
structure Sl where
 u:Nat
 b:Bx
instance:Inhabited Sl:=⟨⟨0,.x⟩⟩
structure AS where
 t:List AV
 b:List Sl
structure Cx where
 R:Nat->Prop
 w0:World
 S0:Ct
 g0:List Nat
 p0:Fi
 q0:Ka
 ρ:Option Nat
 yl:Bool
 dB:Nat×List Deferred
 mks:Bool
abbrev Cx.gr (X:Cx) (R:Nat->Prop):Cx:=⟨R,X.w0,X.S0,X.g0,X.p0,X.q0,X.ρ,X.yl,X.dB,X.mks⟩
structure Fr (w w':World) (S:Ct):Prop where
 os:w'.os=w.os
 tape:w'.tape=w.tape
 output:w'.output=w.output
 size:w.heap.size<=w'.heap.size
 block:∀ b,b < w.heap.size->S b=0->w'.heap[b]? = w.heap[b]?
theorem Fr.refl (w:World) (S:Ct):Fr w w S:=⟨rfl,rfl,rfl,Nat.le_refl _,fun _ _ _=>rfl⟩
def sumF (f:Nat->Ct):Nat->Nat->Nat
 | 0,_=>0
 | n + 1,x=>sumF f n x + f n x
def updF (f:Nat->Ct) (j:Nat) (g:Ct):Nat->Ct:=fun i=>if i=j then g else f i
theorem sumF_congr {f g:Nat->Ct} {x:Nat}:∀ n,(∀ i,i < n->f i x=g i x)->sumF f n x=sumF g n x
 | 0,_=>rfl
 | n + 1,h=>by simp only [sumF];rw [sumF_congr n fun i hi=>h i (by omega),h n (by omega)]
theorem sumF_upd (f:Nat->Ct) (j:Nat) (g:Ct) (x:Nat):∀ n,j < n->sumF (updF f j g) n x + f j x=sumF f n x + g x
 | 0,h=>by omega
 | n + 1,h=>by
  simp only [sumF]
  by_cases hj:j=n
  ·subst hj;have:sumF (updF f j g) j x=sumF f j x:=sumF_congr j fun i hi=>by simp [updF,show i≠j by omega]
   rw [this];simp [updF];omega
  ·have:=sumF_upd f j g x n (by omega);have h2:updF f j g n=f n:=by simp [updF,Ne.symm hj]
   rw [h2];omega
theorem sumF_le (f:Nat->Ct) (x:Nat):∀ n i,i < n->f i x<=sumF f n x
 | 0,i,h=>by omega
 | n + 1,i,h=>by
  simp only [sumF]
  by_cases hi:i=n
  ·subst hi;omega
  ·have:=sumF_le f x n i (by omega);omega
theorem sumF_le2 (f:Nat->Ct) (x:Nat):∀ n i j,i < n->j < n->i≠j->f i x + f j x<=sumF f n x
 | 0,i,j,h,_,_=>by omega
 | n + 1,i,j,h,h',hij=>by
  simp only [sumF]
  by_cases hi:i=n
  ·subst hi;have:=sumF_le f x i j (by omega);omega
  ·by_cases hj:j=n
   ·subst hj;have:=sumF_le f x j i (by omega);omega
   ·have:=sumF_le2 f x n i j (by omega) (by omega) hij;omega
inductive RO (w:World) (φ:Fi) (κ:Ka) (R:Nat->Prop) (k:Nat) (s:List (List AV)):Option (Nat×List AV)->List Value->Ct->Prop
 | no {us S}:RE w φ κ R k s us S->RO w φ κ R k s none us S
 | yes {n c us1 cs us2 us S1 S2 S}:n < s.length->RE w φ κ R k (s.take n) us1 S1->RC w φ κ R c cs Ct.z->cs.length=k->(∀ u∈cs,u.oneCell'=true)->RE w φ κ R k (s.drop (n + 1)) us2 S2->us=us1 ++ cs ++ us2->(∀ x,S x=S1 x + S2 x)->RO w φ κ R k s (some (n,c)) us S
theorem RO.hist {w:World} {φ φ':Fi} {κ κ':Ka} {R R':Nat->Prop} {k:Nat} {s:List (List AV)} {o:Option (Nat×List AV)} {us:List Value} {S:Ct} (hφ:∀ b u g,φ b u=some g->φ' b u=some g) (hκ:∀ b u v,κ b u=some v->κ' b u=some v) (hR:∀ b,R b->R' b) (h:RO w φ κ R k s o us S):RO w φ' κ' R' k s o us S:=by
 cases h with
 | no a=>exact .no (RE.hist hφ hκ hR a)
 | yes a b c d e f g h=>exact .yes a (RE.hist hφ hκ hR b) (RC.hist hφ hκ hR c) d e (RE.hist hφ hκ hR f) g h
theorem RO.keep {w w':World} {φ:Fi} {κ:Ka} {R:Nat->Prop} {k:Nat} {s:List (List AV)} {o:Option (Nat×List AV)} {us:List Value} {S:Ct} (hR:∀ b,R b->w'.heap[b]? = w.heap[b]?) (h:RO w φ κ R k s o us S) (hS:∀ b,S b≠0->w'.heap[b]? = w.heap[b]?):RO w' φ κ R k s o us S:=by
 cases h with
 | no a=>exact .no (RE.keep hR a hS)
 | yes a b c d e f g h=>exact .yes a (RE.keep hR b fun x hx=>hS x (by rw [h x];omega)) (RC.keep hR c fun b hb=>absurd rfl hb) d e (RE.keep hR f fun x hx=>hS x (by rw [h x];omega)) g h
theorem RO.keepC {w w':World} {φ:Fi} {κ:Ka} {R:Nat->Prop} {k:Nat} {s:List (List AV)} {o:Option (Nat×List AV)} {us:List Value} {S:Ct} (hR:∀ b,R b->∀ (o:Nat) (v:Value),w.cell? ⟨b,o,none⟩=some v->w'.cell? ⟨b,o,none⟩=some v) (h:RO w φ κ R k s o us S) (hS:∀ b,S b≠0->w'.heap[b]? = w.heap[b]?):RO w' φ κ R k s o us S:=by
 cases h with
 | no a=>exact .no (RE.keepC hR a hS)
 | yes a b c d e f g h=>exact .yes a (RE.keepC hR b fun x hx=>hS x (by rw [h x];omega)) (RC.keepC hR c fun b hb=>absurd rfl hb) d e (RE.keepC hR f fun x hx=>hS x (by rw [h x];omega)) g h
def StIn (κ:Ka) (es:Array MapEntry):Option (Nat×Nat×Nat)->Prop
 | none=>True
 | some (n,j,v)=>∃ e,es[n]? = some e/\κ j v=some (goInt e.born)
theorem StIn.hist {κ κ':Ka} {es:Array MapEntry} {st:Option (Nat×Nat×Nat)} (hκ:∀ b u v,κ b u=some v->κ' b u=some v) (h:StIn κ es st):StIn κ' es st:=by
 match st,h with
 | none,_=>trivial
 | some (n,j,v),⟨e,h1,h2⟩=>exact ⟨e,h1,hκ _ _ _ h2⟩
inductive RS (w:World) (φ:Fi) (κ:Ka) (R:Nat->Prop) (i u:Nat):Bx->Ct->Prop
 | c {T l vs g S}:φ i u=some g->w.heap[g]? = some (.cells vs.toArray T (0,0))->RC w φ κ R l vs Ct.z->(∀ v∈vs,v.oneCell'=true)->(∀ x,S x=if x=g then 1 else 0)->RS w φ κ R i u (.c T l) S
 | r {e k s v S}:κ i u=some v->RV w φ κ R (.sl (some e) k s) v S->RS w φ κ R i u (.r e k s) S
 | x:RS w φ κ R i u .x Ct.z
 | o:RS w φ κ R i u .o Ct.z
 | y {J}:RS w φ κ R i u (.y J) Ct.z
 | f {e k s n c g cap cur us S' S}:κ i u=some (.slice (some ⟨g,0,none⟩) s.length cap)->RO w φ κ R k s (some (n,c)) us S'->Mk w g cur e->s.length<=cap->cap<=maxLen->cur.size=cap * k->cur.toList.take (s.length * k)=us->(∀ x,S x=(if x=g then 1 else 0) + S' x)->RS w φ κ R i u (.f e k s n c) S
 | m {ks s o st g es clock us S' S}:κ i u=some (.map (some g))->RO w φ κ R 1 s o us S'->w.heap[g]? = some (.map es clock)->MapIn es clock ks us->StIn κ es st->(∀ x,S x=(if x=g then 1 else 0) + S' x)->RS w φ κ R i u (.m ks s o st) S
 | w {e l vs g S}:φ i u=some g->w.heap[g]? = some (.cells vs.toArray e (0,0))->RC w φ κ R l vs Ct.z->(∀ (j:Nat) (a:AV) (v:Value),l[j]? = some a->vs[j]? = some v->a.isDe=false->v.oneCell'=true)->(∀ x,S x=if x=g then 1 else 0)->RS w φ κ R i u (.w e l) S
theorem RS.hist {w:World} {φ φ':Fi} {κ κ':Ka} {R:Nat->Prop} {i u:Nat} {B:Bx} {S:Ct} (hφ:∀ b u g,φ b u=some g->φ' b u=some g) (hκ:∀ b u v,κ b u=some v->κ' b u=some v) (h:RS w φ κ R i u B S):RS w φ' κ' R i u B S:=by
 cases h with
 | c a b c d e=>exact .c (hφ _ _ _ a) b (RC.hist hφ hκ (fun _ h=>h) c) d e
 | r a b=>exact .r (hκ _ _ _ a) (RV.hist hφ hκ (fun _ h=>h) b)
 | x=>exact .x
 | o=>exact .o
 | y=>exact .y
 | f a b c d e f g h=>exact .f (hκ _ _ _ a) (RO.hist hφ hκ (fun _ h=>h) b) c d e f g h
 | m a b c d e f=>exact .m (hκ _ _ _ a) (RO.hist hφ hκ (fun _ h=>h) b) c d (e.hist hκ) f
 | w a b c d e=>exact .w (hφ _ _ _ a) b (RC.hist hφ hκ (fun _ h=>h) c) d e
theorem RS.keep {w w':World} {φ:Fi} {κ:Ka} {R:Nat->Prop} {i u:Nat} {B:Bx} {S:Ct} (hR:∀ b,R b->w'.heap[b]? = w.heap[b]?) (h:RS w φ κ R i u B S) (hS:∀ b,S b≠0->w'.heap[b]? = w.heap[b]?):RS w' φ κ R i u B S:=by
 cases h with
 | c a b c d e=>exact .c a ((hS _ (by rw [e];simp)).trans b) (RC.keep hR c fun b hb=>absurd rfl hb) d e
 | r a b=>exact .r a (RV.keep hR b hS)
 | x=>exact .x
 | o=>exact .o
 | y=>exact .y
 | f a b c d e f g h=>exact .f a (RO.keep hR b fun x hx=>hS x (by rw [h x];omega)) (Mk.keep (hS _ (by rw [h];simp)) c) d e f g h
 | m a b c d e f=>exact .m a (RO.keep hR b fun x hx=>hS x (by rw [f x];omega)) ((hS _ (by rw [f];simp)).trans c) d e f
 | w a b c d e=>exact .w a ((hS _ (by rw [e];simp)).trans b) (RC.keep hR c fun b hb=>absurd rfl hb) d e
theorem RS.keepC {w w':World} {φ:Fi} {κ:Ka} {R:Nat->Prop} {i u:Nat} {B:Bx} {S:Ct} (hR:∀ b,R b->∀ (o:Nat) (v:Value),w.cell? ⟨b,o,none⟩=some v->w'.cell? ⟨b,o,none⟩=some v) (h:RS w φ κ R i u B S) (hS:∀ b,S b≠0->w'.heap[b]? = w.heap[b]?):RS w' φ κ R i u B S:=by
 cases h with
 | c a b c d e=>exact .c a ((hS _ (by rw [e];simp)).trans b) (RC.keepC hR c fun b hb=>absurd rfl hb) d e
 | r a b=>exact .r a (RV.keepC hR b hS)
 | x=>exact .x
 | o=>exact .o
 | y=>exact .y
 | f a b c d e f g h=>exact .f a (RO.keepC hR b fun x hx=>hS x (by rw [h x];omega)) (Mk.keep (hS _ (by rw [h];simp)) c) d e f g h
 | m a b c d e f=>exact .m a (RO.keepC hR b fun x hx=>hS x (by rw [f x];omega)) ((hS _ (by rw [f];simp)).trans c) d e f
 | w a b c d e=>exact .w a ((hS _ (by rw [e];simp)).trans b) (RC.keepC hR c fun b hb=>absurd rfl hb) d e
theorem RS.rmono {w:World} {φ:Fi} {κ:Ka} {R R':Nat->Prop} {i u:Nat} {B:Bx} {S:Ct} (hR:∀ x,R x->R' x) (h:RS w φ κ R i u B S):RS w φ κ R' i u B S:=by
 cases h with
 | c a b c d e=>exact .c a b (RC.hist (fun _ _ _ h=>h) (fun _ _ _ h=>h) hR c) d e
 | r a b=>exact .r a (RV.hist (fun _ _ _ h=>h) (fun _ _ _ h=>h) hR b)
 | x=>exact .x
 | o=>exact .o
 | y=>exact .y
 | f a b c d e f g h=>exact .f a (RO.hist (fun _ _ _ h=>h) (fun _ _ _ h=>h) hR b) c d e f g h
 | m a b c d e f=>exact .m a (RO.hist (fun _ _ _ h=>h) (fun _ _ _ h=>h) hR b) c d e f
 | w a b c d e=>exact .w a b (RC.hist (fun _ _ _ h=>h) (fun _ _ _ h=>h) hR c) d e
structure Dfy (X:Cx) (b:List Sl) (ds:List Deferred) (w:World):Prop where
 df:X.dB.1<=w.heap.size/\∃ Ds:List Nat,ds=Ds.map (fun D=>{ target:=.collected D,args:=#[] }) ++ X.dB.2/\(Ds.Nodup/\(X.mks=false->Ds=[])/\(X.mks=true->X.dB.2=[]))/\∀ D∈Ds,X.dB.1<=D/\X.R D/\w.heap[D]? = some (.deferred (some []))
 yd:∀ (i u:Nat) (J:Jt),b[i]? = some ⟨u,.y J⟩->∃ R0:Nat->Prop,J X.w0 X.S0 R0/\(∀ x,R0 x->X.R x)/\∀ x,X.R x->R0 x\/X.S0 x≠0\/X.w0.heap.size<=x
theorem Dfy.keep {X:Cx} {b:List Sl} {ds:List Deferred} {w w':World} (h:Dfy X b ds w) (hR:∀ x,X.R x->w'.heap[x]? = w.heap[x]?) (hsz:w.heap.size<=w'.heap.size):Dfy X b ds w':=
 ⟨let ⟨h0,Ds,h1,h2,h3⟩:=h.df;⟨Nat.le_trans h0 hsz,Ds,h1,h2,fun D hD=>⟨(h3 D hD).1,(h3 D hD).2.1,(hR D (h3 D hD).2.1).trans (h3 D hD).2.2⟩⟩,h.yd⟩
theorem Dfy.b {X:Cx} {b b':List Sl} {ds:List Deferred} {w:World} (h:Dfy X b ds w) (hb:∀ (i u:Nat) (J:Jt),b'[i]? = some ⟨u,.y J⟩->b[i]? = some ⟨u,.y J⟩):Dfy X b' ds w:=
 ⟨h.df,fun i u J hi=>h.yd i u J (hb i u J hi)⟩
theorem Dfy.gr {X:Cx} {b:List Sl} {ds:List Deferred} {w:World} (h:Dfy X b ds w) {R':Nat->Prop} (hup:∀ x,X.R x->R' x) (hdn:∀ x,R' x->X.R x\/X.S0 x≠0\/X.w0.heap.size<=x):Dfy (X.gr R') b ds w:=
 ⟨let ⟨h0,Ds,h1,h2,h3⟩:=h.df;⟨h0,Ds,h1,h2,fun D hD=>⟨(h3 D hD).1,hup _ (h3 D hD).2.1,(h3 D hD).2.2⟩⟩,fun i u J hi=>by
  obtain ⟨R0,h1,h2,h3⟩:=h.yd i u J hi;exact ⟨R0,h1,fun x hx=>hup _ (h2 x hx),fun x hx=>(hdn x hx).elim (h3 x) .inr⟩⟩
theorem Dfy.set {X:Cx} {b:List Sl} {ds:List Deferred} {w:World} (h:Dfy X b ds w) {j u:Nat} {B:Bx} (hB:B.isY=false):Dfy X (b.set j ⟨u,B⟩) ds w:=
 h.b fun i u' J hi=>by
  rw [List.getElem?_set] at hi;split at hi
  ·split at hi
   ·injection hi with hi;injection hi with h1 h2;subst h2;cases hB
   ·cases hi
  ·exact hi
structure SatW (X:Cx) (φ:Fi) (κ:Ka) (f:Nat->Ct) (L:Ct) (s:AS) (a:Act) (w:World):Prop where
 tm:RC w φ κ X.R s.t a.tmps.toList Ct.z
 df:Dfy X s.b a.defers w
 sl:∀ (i:Nat) (e:Sl),s.b[i]? = some e->RS w φ κ X.R i e.u e.b (f i)
 one:∀ x,sumF f s.b.length x + L x<=1
 own:∀ x,sumF f s.b.length x + L x≠0->x < w.heap.size/\(X.S0 x≠0\/X.w0.heap.size<=x)
 rd:∀ x,X.R x->x < w.heap.size/\sumF f s.b.length x + L x=0
 fr:Fr X.w0 w X.S0
 bas:(∀ (i g:Nat),X.g0[i]? = some g->φ i 0=some g)/\(∀ b u g,X.p0 b u=some g->φ b u=some g)/\∀ b u v,X.q0 b u=some v->κ b u=some v
 new:∀ (i v:Nat),(∀ e,s.b[i]? = some e->e.u < v)->φ i v=none/\κ i v=none
structure Cx.le (X X':Cx):Prop where
 fx:X.yl=false->X'.w0=X.w0/\X'.S0=X.S0/\∀ x,X'.R x->X.R x\/X.S0 x≠0\/X.w0.heap.size<=x
 g0:X'.g0=X.g0
 p0:X'.p0=X.p0
 q0:X'.q0=X.q0
 ρ:X'.ρ=X.ρ
 yl:X'.yl=X.yl
 dB:X'.dB=X.dB
 mks:X'.mks=X.mks
 up:∀ x,X.R x->X'.R x
theorem Cx.le.rfl {X:Cx}:X.le X:=⟨fun _=>⟨.refl _,.refl _,fun _ h=>.inl h⟩,.refl _,.refl _,.refl _,.refl _,.refl _,.refl _,.refl _,fun _ h=>h⟩
theorem Cx.le.trans {X Y Z:Cx} (h:X.le Y) (k:Y.le Z):X.le Z:=
 ⟨fun e=>by
  obtain ⟨a1,a2,a3⟩:=h.fx e;obtain ⟨b1,b2,b3⟩:=k.fx (h.yl.trans e);exact ⟨b1.trans a1,b2.trans a2,fun x hx=>(b3 x hx).elim (a3 x) fun h'=>.inr (by rw [a2,a1] at h';exact h')⟩,
  k.g0.trans h.g0,k.p0.trans h.p0,k.q0.trans h.q0,k.ρ.trans h.ρ,k.yl.trans h.yl,k.dB.trans h.dB,k.mks.trans h.mks,fun x hx=>k.up x (h.up x hx)⟩
theorem Cx.le_gr {X:Cx} {R':Nat->Prop} (hup:∀ x,X.R x->R' x) (hdn:∀ x,R' x->X.R x\/X.S0 x≠0\/X.w0.heap.size<=x):X.le (X.gr R'):=
 ⟨fun _=>⟨.refl _,.refl _,hdn⟩,.refl _,.refl _,.refl _,.refl _,.refl _,.refl _,.refl _,hup⟩
def Sat (X:Cx) (s:AS) (a:Act) (w:World):Prop:=∃ X' φ κ f,X.le X'/\SatW X' φ κ f Ct.z s a w
section
variable {X:Cx} {φ φ':Fi} {κ κ':Ka} {f:Nat->Ct} {L L':Ct} {s:AS} {a:Act} {w w':World}
theorem SatW.size (h:SatW X φ κ f L s a w):a.tmps.size=s.t.length:=by simpa using h.tm.length
theorem SatW.not_rd (h:SatW X φ κ f L s a w) {x:Nat} (hx:X.R x):sumF f s.b.length x + L x=0:=by
 exact (h.rd x hx).2
theorem SatW.put (h:SatW X φ κ f L s a w) (d:Nat) {av:AV} {v:Value} (hv:RV w φ κ X.R av v Ct.z):SatW X φ κ f L ⟨s.t.set d av,s.b⟩ (a.put (some d) v) w:=
 { tm:=by
    simp only [Act.put];rw [Array.toList_setIfInBounds];exact h.tm.set_ hv
   df:=h.df,sl:=h.sl,one:=h.one,own:=h.own,rd:=h.rd,fr:=h.fr,bas:=h.bas,new:=h.new }
theorem SatW.turn (h:SatW X φ κ f L s a w) {j:Nat} {e:Sl} (hj:s.b[j]? = some e) {u:Nat} {B:Bx} {g L':Ct}
 (hφ:∀ b u g,φ b u=some g->φ' b u=some g) (hκ:∀ b u v,κ b u=some v->κ' b u=some v)
 (hsz:w.heap.size<=w'.heap.size) (hos:w'.os=w.os) (htp:w'.tape=w.tape) (hou:w'.output=w.output)
 (hblk:∀ x,x < w.heap.size->f j x + L x=0->w'.heap[x]? = w.heap[x]?)
 (hB:RS w' φ' κ' X.R j u B g) (hone:∀ x,x < w.heap.size->g x + L' x<=f j x + L x) (hnew:∀ x,w.heap.size<=x->g x + L' x<=1/\(g x + L' x≠0->x < w'.heap.size))
 (hu:e.u<=u) (hn:∀ i v,(i≠j\/u < v)->φ i v=none->φ' i v=none) (hn':∀ i v,(i≠j\/u < v)->κ i v=none->κ' i v=none) (hY:B.isY=false:=by rfl) :
 SatW X φ' κ' (updF f j g) L' ⟨s.t,s.b.set j ⟨u,B⟩⟩ a w':=by
 have hjl:j < s.b.length:=(List.getElem?_eq_some_iff.1 hj).1;have hlen:(s.b.set j ⟨u,B⟩).length=s.b.length:=by simp
 have hR:∀ b,X.R b->w'.heap[b]? = w.heap[b]?:=fun b hb=>by
  have h1:=h.not_rd hb;have h2:=sumF_le f b s.b.length j hjl;have h3:=(h.rd b hb).1;have h4:=h.fr.size;exact hblk b (by omega) (by omega)
 have hzero:∀ x,w.heap.size<=x->sumF f s.b.length x + L x=0:=fun x hx=>by
  have:=h.own x;omega
 have hsum:∀ x,sumF (updF f j g) s.b.length x + f j x=sumF f s.b.length x + g x:=fun x=>sumF_upd f j g x _ hjl
 have hrd:∀ x,X.R x->x < w'.heap.size/\sumF (updF f j g) (s.b.set j ⟨u,B⟩).length x + L' x=0:=fun x hx=>by
  have h1:=h.rd x hx;have h2:=hone x h1.1;have h3:=hsum x;have h4:=sumF_le f x s.b.length j hjl;rw [hlen];exact ⟨by omega,by omega⟩
 refine ⟨(RC.hist hφ hκ (fun _ h=>h) (RC.keep hR h.tm fun b hb=>absurd rfl hb)),(h.df.keep hR hsz).set hY,?_,?_,?_,hrd,?_,⟨fun i g hi=>hφ _ _ _ (h.bas.1 i g hi),fun b u g hi=>hφ _ _ _ (h.bas.2.1 b u g hi),fun b u v hi=>hκ _ _ _ (h.bas.2.2 b u v hi)⟩,?_⟩
 ·intro i e' hi
  by_cases hij:i=j
  ·subst hij;rw [List.getElem?_set_self hjl] at hi
   injection hi with hi;subst hi
   simpa [updF] using hB
  ·rw [List.getElem?_set_ne (Ne.symm hij)] at hi;have hil:i < s.b.length:=(List.getElem?_eq_some_iff.1 hi).1;simp only [updF,hij,if_false];refine RS.hist hφ hκ (RS.keep hR (h.sl i e' hi) fun b hb=>?_);have h1:=sumF_le2 f b s.b.length i j hil hjl hij;have h2:=h.one b;have h3:=h.own b;have h4:b < w.heap.size:=(h3 (by omega)).1;exact hblk b h4 (by omega)
 ·intro x;rw [hlen];have h1:=hsum x;have h2:=h.one x;have h4:=sumF_le f x s.b.length j hjl;rcases Nat.lt_or_ge x w.heap.size with h3|h3
  ·have:=hone x h3;omega
  ·have:=hnew x h3;have:=hzero x h3;omega
 ·intro x hx;rw [hlen] at hx;have h1:=hsum x;have h4:=sumF_le f x s.b.length j hjl;rcases Nat.lt_or_ge x w.heap.size with h3|h3
  ·have:=hone x h3;have:=h.own x (by omega);exact ⟨by omega,this.2⟩
  ·have:=hnew x h3;have:=hzero x h3;have h5:=h.fr.size;exact ⟨by omega,.inr (by omega)⟩
 ·have h0:=h.fr;refine ⟨hos.trans h0.os,htp.trans h0.tape,hou.trans h0.output,Nat.le_trans h0.size hsz,fun b hb hS=>?_⟩;have h1:=h.own b;have h4:=sumF_le f b s.b.length j hjl;rw [hblk b (Nat.lt_of_lt_of_le hb h0.size) (by omega)];exact h0.block b hb hS
 ·intro i v hiv
  have hlt:∀ e,s.b[i]? = some e->e.u < v:=by
   intro e' he'
   by_cases hij:i=j
   ·subst hij;have:=hiv (⟨u,B⟩:Sl) (List.getElem?_set_self hjl);rw [hj] at he';injection he' with he';subst he'
    simp only at this;omega
   ·exact hiv e' (by rw [List.getElem?_set_ne (Ne.symm hij)];exact he')
  have hc:i≠j\/u < v:=by
   by_cases hij:i=j
   ·subst hij;exact .inr (hiv (⟨u,B⟩:Sl) (List.getElem?_set_self hjl))
   ·exact .inl hij
  obtain ⟨n1,n2⟩:=h.new i v hlt;exact ⟨hn i v hc n1,hn' i v hc n2⟩
theorem SatW.slot (h:SatW X φ κ f L s a w):SatW X φ κ (updF f s.b.length Ct.z) L ⟨s.t,s.b ++ [⟨0,.x⟩]⟩ a w:=by
 have hs:∀ x,sumF (updF f s.b.length Ct.z) (s.b ++ [(⟨0,.x⟩:Sl)]).length x=sumF f s.b.length x:=fun x=>by
  simp only [List.length_append,List.length_cons,List.length_nil,sumF];rw [sumF_congr (g:=f) _ fun i hi=>by simp [updF,show i≠s.b.length by omega]];simp [updF]
 refine ⟨h.tm,h.df.b fun i u J hi=>?_,?_,fun x=>by rw [hs];exact h.one x,fun x hx=>h.own x (by rw [hs] at hx;exact hx),fun x hx=>by rw [hs];exact h.rd x hx,h.fr,h.bas,?_⟩
 ·by_cases hil:i < s.b.length
  ·rwa [List.getElem?_append_left hil] at hi
  ·have:i=s.b.length:=by
    have:=(List.getElem?_eq_some_iff.1 hi).1;simp at this;omega
   subst this;simp at hi
 ·intro i e hi
  by_cases hil:i < s.b.length
  ·rw [List.getElem?_append_left hil] at hi;simp only [updF,show i≠s.b.length by omega,if_false];exact h.sl i e hi
  ·have:i=s.b.length:=by
    have:=(List.getElem?_eq_some_iff.1 hi).1;simp at this;omega
   subst this;simp at hi;subst hi
   simp only [updF,if_true];exact .x
 ·intro i v hiv;refine h.new i v fun e he=>hiv e ?_
  rw [List.getElem?_append_left (List.getElem?_eq_some_iff.1 he).1];exact he
theorem SatW.drop (h:SatW X φ κ f L s a w) (hL:∀ x,L' x<=L x):SatW X φ κ f L' s a w:=
 { tm:=h.tm,df:=h.df,sl:=h.sl,one:=fun x=>by have:=h.one x;have:=hL x;omega,own:=fun x hx=>h.own x (by have:=hL x;omega),rd:=fun x hx=>by have:=h.rd x hx;have:=hL x;exact ⟨by omega,by omega⟩,fr:=h.fr,bas:=h.bas,new:=h.new }
theorem SatW.grow (h:SatW X φ κ f L s a w) {R':Nat->Prop} (hup:∀ x,X.R x->R' x) (hrd:∀ x,R' x->x < w.heap.size/\sumF f s.b.length x + L x=0) (hdn:∀ x,R' x->X.R x\/X.S0 x≠0\/X.w0.heap.size<=x):SatW (X.gr R') φ κ f L s a w:=
 { tm:=RC.hist (fun _ _ _ h=>h) (fun _ _ _ h=>h) hup h.tm,df:=h.df.gr hup hdn,sl:=fun i e he=>RS.rmono hup (h.sl i e he),one:=h.one,own:=h.own,rd:=hrd,fr:=h.fr,bas:=h.bas,new:=h.new }
theorem SatW.world (h:SatW X φ κ f L s a w) (hh:w'.heap=w.heap) (hos:w'.os=w.os) (htp:w'.tape=w.tape) (hou:w'.output=w.output):SatW X φ κ f L s a w':=by
 have hb:∀ b:Nat,w'.heap[b]? = w.heap[b]?:=fun b=>by rw [hh]
 refine ⟨RC.keep (fun b _=>hb b) h.tm fun b _=>hb b,h.df.keep (fun b _=>hb b) (Nat.le_of_eq (congrArg Array.size hh.symm)),fun i e he=>RS.keep (fun b _=>hb b) (h.sl i e he) fun b _=>hb b,h.one,fun x hx=>by rw [hh];exact h.own x hx,fun x hx=>by rw [hh];exact h.rd x hx,?_,h.bas,h.new⟩;have h0:=h.fr;exact ⟨hos.trans h0.os,htp.trans h0.tape,hou.trans h0.output,by rw [hh];exact h0.size,fun b hb' hS=>(hb b).trans (h0.block b hb' hS)⟩
end
inductive ZC where
 | b|i (k:IntKind)|s|p|l|m|f|n
def ZC.val:ZC->Value
 | .b=>.bool false
 | .i k=>.int k 0
 | .s=>.string ByteArray.empty
 | .p=>.pointer none
 | .l=>.slice none 0 0
 | .m=>.map none
 | .f=>.nilFunc
 | .n=>.nilIface
inductive Kd where
 | st (f:List (Nat×Nat))
 | ar (n elem:Nat)
 | sl (elem:Nat)
 | it (k:IntKind)
 | bo|sr
 | pt (elem:Nat)
 | mp (k v:Nat)
 | ot
structure TI where
 kd:Kd
 size:Nat
 bytes:Nat
 zero:Option (List ZC)
def ZC.is:ZC->Value->Bool
 | .b,.bool false=>true
 | .i k,.int k' 0=>k == k'
 | .s,.string q=>q.size == 0
 | .p,.pointer none=>true
 | .l,.slice none 0 0=>true
 | .m,.map none=>true
 | .f,.nilFunc=>true
 | .n,.nilIface=>true
 | _,_=>false
def ZC.all:List ZC->List Value->Bool
 | [],[]=>true
 | z :: zs,v :: vs=>z.is v && ZC.all zs vs
 | _,_=>false
def Kd.is (P:Program):Kd->TypeDesc->Bool
 | .st f,.struct fs=>fs.toList.map (fun x=>(x.offset,((P.info? x.type).map (·.size)).getD 0)) == f
 | .ar n e,.array n' e'=>n == n' && e == e'
 | .sl e,.slice e'=>e == e'
 | .it k,.int k'=>k == k'
 | .bo,.bool=>true
 | .sr,.string=>true
 | .pt e,.pointer e'=>e == e'
 | .mp k v,.map k' v'=>k == k' && v == v'
 | .ot,.struct _=>false
 | .ot,.array _ _=>false
 | .ot,_=>true
 | _,_=>false
def TI.is (P:Program) (T:Nat) (i:TI):Bool:=
 match P.underlying T,P.info? T with
 | some d,some j=>i.kd.is P d && i.size == j.size && i.bytes == j.bytes && (match i.zero with
  | none=>true
  | some zs=>match j.zero with
   | none=>false
   | some v=>(match v with | .agg _=>(match d with | .struct _=>true | .array _ _=>true | _=>false) | .tuple _=>false | _=>(match d with | .struct _=>false | .array _ _=>false | _=>true)) && ZC.all zs v.cells.toList && (zs.length == i.size))
 | _,_=>false
def TT.is (P:Program):Nat->List TI->Bool
 | _,[]=>true
 | n,i :: l=>i.is P n && TT.is P (n + 1) l
theorem TT.at_ {P:Program}:∀ {l:List TI} {n T:Nat} {i:TI},TT.is P n l=true->l[T]? = some i->i.is P (n + T)=true
 | [],_,_,_,_,h=>by simp at h
 | j :: l,n,T,i,h,hi=>by
  simp only [TT.is,Bool.and_eq_true] at h
  cases T with
  | zero=>simp at hi;subst hi;exact h.1
  | succ T=>simp at hi;have:=TT.at_ h.2 hi;rwa [show n + (T + 1)=n + 1 + T by omega]
theorem str_empty {s:ByteArray} (h:s.size=0):s=ByteArray.empty:=by
 cases s with|mk d=>have:d=#[]:=Array.eq_empty_of_size_eq_zero h;subst this;rfl
theorem ZC.val_of {z:ZC} {v:Value} (h:z.is v=true):v=z.val:=by
 unfold ZC.is at h;split at h
 all_goals first|rfl|(cases h;done)|skip
 ·have:=eq_of_beq h;subst this;rfl
 ·rename_i q;rw [str_empty (s:=q) (by simpa using h)];rfl
theorem ZC.all_of:∀ {zs:List ZC} {vs:List Value},ZC.all zs vs=true->vs=zs.map ZC.val
 | [],[],_=>rfl
 | [],_ :: _,h=>by simp [ZC.all] at h
 | _ :: _,[],h=>by simp [ZC.all] at h
 | z :: zs,v :: vs,h=>by
  simp only [ZC.all,Bool.and_eq_true] at h;rw [ZC.val_of h.1,ZC.all_of h.2];rfl
section
variable {P:Program} {T:Nat} {i:TI}
theorem TI.parts (h:i.is P T=true):∃ d j,P.underlying T=some d/\P.info? T=some j/\i.kd.is P d=true/\j.size=i.size/\j.bytes=i.bytes /\
 (∀ zs,i.zero=some zs->∃ v,j.zero=some v/\v.cells.toList=zs.map ZC.val/\zs.length=i.size/\((∃ c,v=.agg c)↔(match d with | .struct _=>true | .array _ _=>true | _=>false)=true)/\(∀ c,v≠.tuple c)):=by
 unfold TI.is at h
 cases hd:P.underlying T with
 | none=>simp [hd] at h
 | some d=>
  cases hj:P.info? T with
  | none=>simp [hd,hj] at h
  | some j=>
   simp only [hd,hj,Bool.and_eq_true,beq_iff_eq] at h;obtain ⟨⟨⟨h1,h2⟩,h3⟩,h4⟩:=h;refine ⟨d,j,rfl,rfl,h1,h2.symm,h3.symm,fun zs hz=>?_⟩;rw [hz] at h4
   cases hv:j.zero with
   | none=>simp [hv] at h4
   | some v=>
    simp only [hv,Bool.and_eq_true,beq_iff_eq] at h4;obtain ⟨⟨h5,h6⟩,h7⟩:=h4;refine ⟨v,rfl,ZC.all_of h6,h7,?_,?_⟩
    ·cases v<;>first|(simp at h5;done)|(cases d<;>simp at h5 ⊢)
    ·rintro c rfl;simp at h5
theorem TI.row (h:i.is P T=true) {f:List (Nat×Nat)} (hk:i.kd=.st f):∃ fs,P.underlying T=some (.struct fs)/\∀ (n o z:Nat),f[n]? = some (o,z)->∃ x:Field,fs[n]? = some x/\x.offset=o/\((P.info? x.type).map (·.size)).getD 0=z:=by
 obtain ⟨d,j,hd,hj,h1,_⟩:=TI.parts h;rw [hk] at h1
 cases d with
 | struct fs=>
  simp only [Kd.is] at h1;refine ⟨fs,hd,fun n o z hn=>?_⟩;have:=eq_of_beq h1;rw [←this] at hn;simp only [List.getElem?_map,Option.map_eq_some_iff,Array.getElem?_toList] at hn;obtain ⟨x,hx,hxe⟩:=hn
  injection hxe with e1 e2
  exact ⟨x,hx,e1,e2⟩
 | _=>simp [Kd.is] at h1
end
def tt:List TI:=[
 ⟨.ot,1,0,none⟩,
 ⟨.ot,1,8,some [.f]⟩,
 ⟨.it .i64,1,8,some [.i .i64]⟩,
 ⟨.it .i64,1,8,some [.i .i64]⟩,
 ⟨.bo,1,1,some [.b]⟩,
 ⟨.it .u8,1,1,some [.i .u8]⟩,
 ⟨.it .u8,1,1,some [.i .u8]⟩,
 ⟨.st [(0,1),(1,1),(2,1),(3,1)],4,24,some [.i .i64,.i .i64,.b,.i .u8]⟩,
 ⟨.st [(0,1),(1,1),(2,1),(3,1)],4,24,some [.i .i64,.i .i64,.b,.i .u8]⟩,
 ⟨.sr,1,16,some [.s]⟩,
 ⟨.sr,1,16,some [.s]⟩,
 ⟨.sr,1,16,some [.s]⟩,
 ⟨.it .u64,1,8,some [.i .u64]⟩,
 ⟨.st [(0,1),(1,1)],2,24,some [.s,.i .u64]⟩,
 ⟨.st [(0,1),(1,1)],2,24,some [.s,.i .u64]⟩,
 ⟨.pt 291,1,8,some [.p]⟩,
 ⟨.pt 294,1,8,some [.p]⟩,
 ⟨.pt 302,1,8,some [.p]⟩,
 ⟨.st [(0,1)],1,8,some [.p]⟩,
 ⟨.st [(0,1)],1,8,some [.p]⟩,
 ⟨.ot,1,16,some [.n]⟩,
 ⟨.it .i32,1,4,some [.i .i32]⟩,
 ⟨.sl 5,1,24,some [.l]⟩,
 ⟨.sl 56,1,24,some [.l]⟩,
 ⟨.sl 35,1,24,some [.l]⟩,
 ⟨.sl 74,1,24,some [.l]⟩,
 ⟨.ot,1,0,none⟩,
 ⟨.ot,1,8,some [.f]⟩,
 ⟨.ot,1,8,some [.f]⟩,
 ⟨.ot,1,8,some [.f]⟩,
 ⟨.sl 123,1,24,some [.l]⟩,
 ⟨.sl 42,1,24,some [.l]⟩,
 ⟨.sl 72,1,24,some [.l]⟩,
 ⟨.sl 131,1,24,some [.l]⟩,
 ⟨.st [(0,1),(1,1),(2,1),(3,1),(4,1)],5,104,some [.i .i64,.l,.l,.l,.l]⟩,
 ⟨.st [(0,1),(1,1),(2,1),(3,1),(4,1)],5,104,some [.i .i64,.l,.l,.l,.l]⟩,
 ⟨.ot,1,8,some [.f]⟩,
 ⟨.sl 93,1,24,some [.l]⟩,
 ⟨.st [(0,1),(1,1),(2,1)],3,40,some [.i .i64,.i .i64,.l]⟩,
 ⟨.st [(0,1),(1,1),(2,1)],3,40,some [.i .i64,.i .i64,.l]⟩,
 ⟨.sl 3,1,24,some [.l]⟩,
 ⟨.st [(0,1),(1,1),(2,3),(5,1)],6,80,some [.i .i64,.i .i64,.i .i64,.i .i64,.l,.l]⟩,
 ⟨.st [(0,1),(1,1),(2,3),(5,1)],6,80,some [.i .i64,.i .i64,.i .i64,.i .i64,.l,.l]⟩,
 ⟨.ot,1,0,none⟩,
 ⟨.ot,1,8,some [.f]⟩,
 ⟨.ot,1,8,some [.f]⟩,
 ⟨.st [(0,1),(1,1),(2,1)],3,24,some [.i .u8,.i .i64,.i .i64]⟩,
 ⟨.st [(0,1),(1,1),(2,1)],3,24,some [.i .u8,.i .i64,.i .i64]⟩,
 ⟨.st [(0,1),(1,1),(2,1),(3,1),(4,1),(5,1),(6,1),(7,1),(8,1),(9,3)],12,136,some [.i .u8,.l,.s,.s,.s,.i .i64,.i .i64,.i .i64,.i .i64,.i .u8,.i .i64,.i .i64]⟩,
 ⟨.st [(0,1),(1,1),(2,1),(3,1),(4,1),(5,1),(6,1),(7,1),(8,1),(9,3)],12,136,some [.i .u8,.l,.s,.s,.s,.i .i64,.i .i64,.i .i64,.i .i64,.i .u8,.i .i64,.i .i64]⟩,
 ⟨.it .i64,1,8,some [.i .i64]⟩,
 ⟨.ot,1,0,none⟩,
 ⟨.ot,1,8,some [.f]⟩,
 ⟨.ot,1,8,some [.f]⟩,
 ⟨.sl 47,1,24,some [.l]⟩,
 ⟨.st [(0,1),(1,1),(2,1),(3,12),(15,1),(16,1),(17,1),(18,1)],19,224,some [.i .i64,.i .i64,.i .i64,.i .u8,.l,.s,.s,.s,.i .i64,.i .i64,.i .i64,.i .i64,.i .u8,.i .i64,.i .i64,.i .i64,.l,.b,.l]⟩,
 ⟨.st [(0,1),(1,1),(2,1),(3,12),(15,1),(16,1),(17,1),(18,1)],19,224,some [.i .i64,.i .i64,.i .i64,.i .u8,.l,.s,.s,.s,.i .i64,.i .i64,.i .i64,.i .i64,.i .u8,.i .i64,.i .i64,.i .i64,.l,.b,.l]⟩,
 ⟨.ar 32 5,32,32,some [.i .u8,.i .u8,.i .u8,.i .u8,.i .u8,.i .u8,.i .u8,.i .u8,.i .u8,.i .u8,.i .u8,.i .u8,.i .u8,.i .u8,.i .u8,.i .u8,.i .u8,.i .u8,.i .u8,.i .u8,.i .u8,.i .u8,.i .u8,.i .u8,.i .u8,.i .u8,.i .u8,.i .u8,.i .u8,.i .u8,.i .u8,.i .u8]⟩,
 ⟨.ar 32 5,32,32,some [.i .u8,.i .u8,.i .u8,.i .u8,.i .u8,.i .u8,.i .u8,.i .u8,.i .u8,.i .u8,.i .u8,.i .u8,.i .u8,.i .u8,.i .u8,.i .u8,.i .u8,.i .u8,.i .u8,.i .u8,.i .u8,.i .u8,.i .u8,.i .u8,.i .u8,.i .u8,.i .u8,.i .u8,.i .u8,.i .u8,.i .u8,.i .u8]⟩,
 ⟨.st [(0,1),(1,1),(2,32)],34,64,some [.i .i64,.l,.i .u8,.i .u8,.i .u8,.i .u8,.i .u8,.i .u8,.i .u8,.i .u8,.i .u8,.i .u8,.i .u8,.i .u8,.i .u8,.i .u8,.i .u8,.i .u8,.i .u8,.i .u8,.i .u8,.i .u8,.i .u8,.i .u8,.i .u8,.i .u8,.i .u8,.i .u8,.i .u8,.i .u8,.i .u8,.i .u8,.i .u8,.i .u8]⟩,
 ⟨.st [(0,1),(1,1),(2,32)],34,64,some [.i .i64,.l,.i .u8,.i .u8,.i .u8,.i .u8,.i .u8,.i .u8,.i .u8,.i .u8,.i .u8,.i .u8,.i .u8,.i .u8,.i .u8,.i .u8,.i .u8,.i .u8,.i .u8,.i .u8,.i .u8,.i .u8,.i .u8,.i .u8,.i .u8,.i .u8,.i .u8,.i .u8,.i .u8,.i .u8,.i .u8,.i .u8,.i .u8,.i .u8]⟩,
 ⟨.ot,1,0,none⟩,
 ⟨.ot,1,8,some [.f]⟩,
 ⟨.ot,1,0,none⟩,
 ⟨.ot,1,8,some [.f]⟩,
 ⟨.ot,1,8,some [.f]⟩,
 ⟨.ot,1,8,some [.f]⟩,
 ⟨.ot,1,8,some [.f]⟩,
 ⟨.it .u64,1,8,some [.i .u64]⟩,
 ⟨.ot,1,8,some [.f]⟩,
 ⟨.sl 9,1,24,some [.l]⟩,
 ⟨.st [(0,1),(1,1),(2,1),(3,1),(4,1),(5,1),(6,1),(7,32),(39,32)],71,120,some [.i .i64,.i .i64,.i .u8,.i .i64,.i .i64,.i .i64,.i .i64,.i .u8,.i .u8,.i .u8,.i .u8,.i .u8,.i .u8,.i .u8,.i .u8,.i .u8,.i .u8,.i .u8,.i .u8,.i .u8,.i .u8,.i .u8,.i .u8,.i .u8,.i .u8,.i .u8,.i .u8,.i .u8,.i .u8,.i .u8,.i .u8,.i .u8,.i .u8,.i .u8,.i .u8,.i .u8,.i .u8,.i .u8,.i .u8,.i .u8,.i .u8,.i .u8,.i .u8,.i .u8,.i .u8,.i .u8,.i .u8,.i .u8,.i .u8,.i .u8,.i .u8,.i .u8,.i .u8,.i .u8,.i .u8,.i .u8,.i .u8,.i .u8,.i .u8,.i .u8,.i .u8,.i .u8,.i .u8,.i .u8,.i .u8,.i .u8,.i .u8,.i .u8,.i .u8,.i .u8,.i .u8]⟩,
 ⟨.st [(0,1),(1,1),(2,1),(3,1),(4,1),(5,1),(6,1),(7,32),(39,32)],71,120,some [.i .i64,.i .i64,.i .u8,.i .i64,.i .i64,.i .i64,.i .i64,.i .u8,.i .u8,.i .u8,.i .u8,.i .u8,.i .u8,.i .u8,.i .u8,.i .u8,.i .u8,.i .u8,.i .u8,.i .u8,.i .u8,.i .u8,.i .u8,.i .u8,.i .u8,.i .u8,.i .u8,.i .u8,.i .u8,.i .u8,.i .u8,.i .u8,.i .u8,.i .u8,.i .u8,.i .u8,.i .u8,.i .u8,.i .u8,.i .u8,.i .u8,.i .u8,.i .u8,.i .u8,.i .u8,.i .u8,.i .u8,.i .u8,.i .u8,.i .u8,.i .u8,.i .u8,.i .u8,.i .u8,.i .u8,.i .u8,.i .u8,.i .u8,.i .u8,.i .u8,.i .u8,.i .u8,.i .u8,.i .u8,.i .u8,.i .u8,.i .u8,.i .u8,.i .u8,.i .u8,.i .u8]⟩,
 ⟨.st [(0,1),(1,1),(2,1),(3,1),(4,71)],75,176,some [.i .i64,.s,.l,.i .i64,.i .i64,.i .i64,.i .u8,.i .i64,.i .i64,.i .i64,.i .i64,.i .u8,.i .u8,.i .u8,.i .u8,.i .u8,.i .u8,.i .u8,.i .u8,.i .u8,.i .u8,.i .u8,.i .u8,.i .u8,.i .u8,.i .u8,.i .u8,.i .u8,.i .u8,.i .u8,.i .u8,.i .u8,.i .u8,.i .u8,.i .u8,.i .u8,.i .u8,.i .u8,.i .u8,.i .u8,.i .u8,.i .u8,.i .u8,.i .u8,.i .u8,.i .u8,.i .u8,.i .u8,.i .u8,.i .u8,.i .u8,.i .u8,.i .u8,.i .u8,.i .u8,.i .u8,.i .u8,.i .u8,.i .u8,.i .u8,.i .u8,.i .u8,.i .u8,.i .u8,.i .u8,.i .u8,.i .u8,.i .u8,.i .u8,.i .u8,.i .u8,.i .u8,.i .u8,.i .u8,.i .u8]⟩,
 ⟨.st [(0,1),(1,1),(2,1),(3,1),(4,71)],75,176,some [.i .i64,.s,.l,.i .i64,.i .i64,.i .i64,.i .u8,.i .i64,.i .i64,.i .i64,.i .i64,.i .u8,.i .u8,.i .u8,.i .u8,.i .u8,.i .u8,.i .u8,.i .u8,.i .u8,.i .u8,.i .u8,.i .u8,.i .u8,.i .u8,.i .u8,.i .u8,.i .u8,.i .u8,.i .u8,.i .u8,.i .u8,.i .u8,.i .u8,.i .u8,.i .u8,.i .u8,.i .u8,.i .u8,.i .u8,.i .u8,.i .u8,.i .u8,.i .u8,.i .u8,.i .u8,.i .u8,.i .u8,.i .u8,.i .u8,.i .u8,.i .u8,.i .u8,.i .u8,.i .u8,.i .u8,.i .u8,.i .u8,.i .u8,.i .u8,.i .u8,.i .u8,.i .u8,.i .u8,.i .u8,.i .u8,.i .u8,.i .u8,.i .u8,.i .u8,.i .u8,.i .u8,.i .u8,.i .u8,.i .u8]⟩,
 ⟨.ot,1,8,some [.f]⟩,
 ⟨.ot,1,0,none⟩,
 ⟨.ot,1,8,some [.f]⟩,
 ⟨.st [(0,1),(1,1),(2,1),(3,1),(4,1)],5,56,some [.i .i64,.i .i64,.i .i64,.i .i64,.l]⟩,
 ⟨.st [(0,1),(1,1),(2,1),(3,1),(4,1)],5,56,some [.i .i64,.i .i64,.i .i64,.i .i64,.l]⟩,
 ⟨.ot,1,8,some [.f]⟩,
 ⟨.ot,1,8,some [.f]⟩,
 ⟨.ot,1,8,some [.f]⟩,
 ⟨.ot,1,8,some [.f]⟩,
 ⟨.ot,1,8,some [.f]⟩,
 ⟨.ot,1,8,some [.f]⟩,
 ⟨.ot,1,8,some [.f]⟩,
 ⟨.ot,1,8,some [.f]⟩,
 ⟨.ot,1,8,some [.f]⟩,
 ⟨.ot,1,8,some [.f]⟩,
 ⟨.ot,1,8,some [.f]⟩,
 ⟨.ot,1,8,some [.f]⟩,
 ⟨.st [(0,1),(1,1)],2,32,some [.s,.s]⟩,
 ⟨.st [(0,1),(1,1)],2,32,some [.s,.s]⟩,
 ⟨.pt 141,1,8,some [.p]⟩,
 ⟨.ot,1,8,some [.f]⟩,
 ⟨.ot,1,8,some [.f]⟩,
 ⟨.ot,1,8,some [.f]⟩,
 ⟨.ot,1,8,some [.f]⟩,
 ⟨.ot,1,8,some [.f]⟩,
 ⟨.ot,1,8,some [.f]⟩,
 ⟨.ot,1,8,some [.f]⟩,
 ⟨.ot,1,8,some [.f]⟩,
 ⟨.ot,1,8,some [.f]⟩,
 ⟨.ot,1,8,some [.f]⟩,
 ⟨.ot,1,8,some [.f]⟩,
 ⟨.ot,1,0,none⟩,
 ⟨.ot,1,8,some [.f]⟩,
 ⟨.ot,1,8,some [.f]⟩,
 ⟨.ot,1,8,some [.f]⟩,
 ⟨.ot,1,8,some [.f]⟩,
 ⟨.ot,1,8,some [.f]⟩,
 ⟨.ot,1,8,some [.f]⟩,
 ⟨.ot,1,0,none⟩,
 ⟨.ot,1,8,some [.f]⟩,
 ⟨.ot,1,8,some [.f]⟩,
 ⟨.ot,1,0,none⟩,
 ⟨.ot,1,8,some [.f]⟩,
 ⟨.ot,1,8,some [.f]⟩,
 ⟨.ot,1,8,some [.f]⟩,
 ⟨.ot,1,8,some [.f]⟩,
 ⟨.ot,1,8,some [.f]⟩,
 ⟨.st [(0,1),(1,1),(2,1)],3,24,some [.i .i64,.i .i64,.i .i64]⟩,
 ⟨.st [(0,1),(1,1),(2,1)],3,24,some [.i .i64,.i .i64,.i .i64]⟩,
 ⟨.ot,1,8,some [.f]⟩,
 ⟨.ot,1,8,some [.f]⟩,
 ⟨.ot,1,8,some [.f]⟩,
 ⟨.ot,1,0,none⟩,
 ⟨.ot,1,8,some [.f]⟩,
 ⟨.ot,1,8,some [.f]⟩,
 ⟨.st [(0,1),(1,1),(2,75)],77,192,some [.i .i64,.i .i64,.i .i64,.s,.l,.i .i64,.i .i64,.i .i64,.i .u8,.i .i64,.i .i64,.i .i64,.i .i64,.i .u8,.i .u8,.i .u8,.i .u8,.i .u8,.i .u8,.i .u8,.i .u8,.i .u8,.i .u8,.i .u8,.i .u8,.i .u8,.i .u8,.i .u8,.i .u8,.i .u8,.i .u8,.i .u8,.i .u8,.i .u8,.i .u8,.i .u8,.i .u8,.i .u8,.i .u8,.i .u8,.i .u8,.i .u8,.i .u8,.i .u8,.i .u8,.i .u8,.i .u8,.i .u8,.i .u8,.i .u8,.i .u8,.i .u8,.i .u8,.i .u8,.i .u8,.i .u8,.i .u8,.i .u8,.i .u8,.i .u8,.i .u8,.i .u8,.i .u8,.i .u8,.i .u8,.i .u8,.i .u8,.i .u8,.i .u8,.i .u8,.i .u8,.i .u8,.i .u8,.i .u8,.i .u8,.i .u8,.i .u8]⟩,
 ⟨.st [(0,1),(1,1),(2,75)],77,192,some [.i .i64,.i .i64,.i .i64,.s,.l,.i .i64,.i .i64,.i .i64,.i .u8,.i .i64,.i .i64,.i .i64,.i .i64,.i .u8,.i .u8,.i .u8,.i .u8,.i .u8,.i .u8,.i .u8,.i .u8,.i .u8,.i .u8,.i .u8,.i .u8,.i .u8,.i .u8,.i .u8,.i .u8,.i .u8,.i .u8,.i .u8,.i .u8,.i .u8,.i .u8,.i .u8,.i .u8,.i .u8,.i .u8,.i .u8,.i .u8,.i .u8,.i .u8,.i .u8,.i .u8,.i .u8,.i .u8,.i .u8,.i .u8,.i .u8,.i .u8,.i .u8,.i .u8,.i .u8,.i .u8,.i .u8,.i .u8,.i .u8,.i .u8,.i .u8,.i .u8,.i .u8,.i .u8,.i .u8,.i .u8,.i .u8,.i .u8,.i .u8,.i .u8,.i .u8,.i .u8,.i .u8,.i .u8,.i .u8,.i .u8,.i .u8,.i .u8]⟩,
 ⟨.ot,1,8,some [.f]⟩,
 ⟨.ot,1,8,some [.f]⟩,
 ⟨.ot,1,0,none⟩,
 ⟨.ot,1,8,some [.f]⟩,
 ⟨.ot,1,8,some [.f]⟩,
 ⟨.ot,1,8,some [.f]⟩,
 ⟨.ot,1,8,some [.f]⟩,
 ⟨.ot,1,8,some [.f]⟩,
 ⟨.st [(0,1),(1,1),(2,1)],3,40,some [.b,.l,.i .i64]⟩,
 ⟨.st [(0,1),(1,1),(2,1)],3,40,some [.b,.l,.i .i64]⟩,
 ⟨.ot,1,8,some [.f]⟩,
 ⟨.ot,1,8,some [.f]⟩,
 ⟨.ot,1,8,some [.f]⟩,
 ⟨.ot,1,8,some [.f]⟩,
 ⟨.it .u32,1,4,some [.i .u32]⟩,
 ⟨.ot,1,0,none⟩,
 ⟨.ot,1,8,some [.f]⟩,
 ⟨.ot,1,8,some [.f]⟩,
 ⟨.ot,1,8,some [.f]⟩,
 ⟨.ot,1,8,some [.f]⟩,
 ⟨.ot,1,0,none⟩,
 ⟨.ot,1,8,some [.f]⟩,
 ⟨.ot,1,8,some [.f]⟩,
 ⟨.st [(0,1),(1,1)],2,16,some [.f,.f]⟩,
 ⟨.st [(0,1),(1,1)],2,16,some [.f,.f]⟩,
 ⟨.ar 11 156,22,176,some [.f,.f,.f,.f,.f,.f,.f,.f,.f,.f,.f,.f,.f,.f,.f,.f,.f,.f,.f,.f,.f,.f]⟩,
 ⟨.ot,1,8,some [.f]⟩,
 ⟨.pt 49,1,8,some [.p]⟩,
 ⟨.ot,1,8,some [.f]⟩,
 ⟨.ot,1,8,some [.f]⟩,
 ⟨.ot,1,8,some [.f]⟩,
 ⟨.ot,1,8,some [.f]⟩,
 ⟨.ot,1,8,some [.f]⟩,
 ⟨.ot,1,8,some [.f]⟩,
 ⟨.ot,1,8,some [.f]⟩,
 ⟨.ot,1,8,some [.f]⟩,
 ⟨.ot,1,8,some [.f]⟩,
 ⟨.ot,1,8,some [.f]⟩,
 ⟨.ot,1,8,some [.f]⟩,
 ⟨.ot,1,8,some [.f]⟩,
 ⟨.ot,1,8,some [.f]⟩,
 ⟨.ot,1,8,some [.f]⟩,
 ⟨.ot,1,8,some [.f]⟩,
 ⟨.ot,1,8,some [.f]⟩,
 ⟨.ot,1,8,some [.f]⟩,
 ⟨.ot,1,8,some [.f]⟩,
 ⟨.ot,1,8,some [.f]⟩,
 ⟨.ot,1,8,some [.f]⟩,
 ⟨.st [(0,1),(1,1)],2,16,some [.i .u8,.f]⟩,
 ⟨.st [(0,1),(1,1)],2,16,some [.i .u8,.f]⟩,
 ⟨.ar 11 181,22,176,some [.i .u8,.f,.i .u8,.f,.i .u8,.f,.i .u8,.f,.i .u8,.f,.i .u8,.f,.i .u8,.f,.i .u8,.f,.i .u8,.f,.i .u8,.f,.i .u8,.f]⟩,
 ⟨.ot,1,8,some [.f]⟩,
 ⟨.st [(0,12),(12,1),(13,1),(14,1)],15,176,some [.i .u8,.l,.s,.s,.s,.i .i64,.i .i64,.i .i64,.i .i64,.i .u8,.i .i64,.i .i64,.l,.i .i64,.i .i64]⟩,
 ⟨.st [(0,12),(12,1),(13,1),(14,1)],15,176,some [.i .u8,.l,.s,.s,.s,.i .i64,.i .i64,.i .i64,.i .i64,.i .u8,.i .i64,.i .i64,.l,.i .i64,.i .i64]⟩,
 ⟨.pt 35,1,8,some [.p]⟩,
 ⟨.ot,1,8,some [.f]⟩,
 ⟨.ot,1,8,some [.f]⟩,
 ⟨.ot,1,8,some [.f]⟩,
 ⟨.ot,1,8,some [.f]⟩,
 ⟨.ot,1,8,some [.f]⟩,
 ⟨.pt 224,1,8,some [.p]⟩,
 ⟨.ot,1,8,some [.f]⟩,
 ⟨.ot,1,8,some [.f]⟩,
 ⟨.ot,1,8,some [.f]⟩,
 ⟨.ot,1,8,some [.f]⟩,
 ⟨.ot,1,8,some [.f]⟩,
 ⟨.ot,1,8,some [.f]⟩,
 ⟨.ot,1,8,some [.f]⟩,
 ⟨.ot,1,0,none⟩,
 ⟨.ot,1,8,some [.f]⟩,
 ⟨.ot,1,8,some [.f]⟩,
 ⟨.ot,1,8,some [.f]⟩,
 ⟨.ot,1,8,some [.f]⟩,
 ⟨.sl 22,1,24,some [.l]⟩,
 ⟨.ot,1,0,none⟩,
 ⟨.ot,1,8,some [.f]⟩,
 ⟨.ot,1,0,none⟩,
 ⟨.ot,1,8,some [.f]⟩,
 ⟨.ot,1,8,some [.f]⟩,
 ⟨.ot,1,8,some [.f]⟩,
 ⟨.ot,1,8,some [.f]⟩,
 ⟨.ot,1,8,some [.f]⟩,
 ⟨.ot,1,8,some [.f]⟩,
 ⟨.ot,1,8,some [.f]⟩,
 ⟨.ot,1,8,some [.f]⟩,
 ⟨.ot,1,8,some [.f]⟩,
 ⟨.ot,1,8,some [.f]⟩,
 ⟨.ot,1,8,some [.f]⟩,
 ⟨.ot,1,8,some [.f]⟩,
 ⟨.ot,1,8,some [.f]⟩,
 ⟨.ot,1,8,some [.f]⟩,
 ⟨.st [(0,1),(1,1),(2,1)],3,32,some [.b,.b,.l]⟩,
 ⟨.st [(0,1),(1,1),(2,1)],3,32,some [.b,.b,.l]⟩,
 ⟨.ot,1,8,some [.f]⟩,
 ⟨.ot,1,8,some [.f]⟩,
 ⟨.ot,1,8,some [.f]⟩,
 ⟨.it .u64,1,8,some [.i .u64]⟩,
 ⟨.sl 146,1,24,some [.l]⟩,
 ⟨.ot,1,8,some [.f]⟩,
 ⟨.ot,1,8,some [.f]⟩,
 ⟨.ot,1,8,some [.f]⟩,
 ⟨.pt 260,1,8,some [.p]⟩,
 ⟨.ot,1,8,some [.f]⟩,
 ⟨.ot,1,8,some [.f]⟩,
 ⟨.ot,1,0,none⟩,
 ⟨.ot,1,8,some [.f]⟩,
 ⟨.ot,1,8,some [.f]⟩,
 ⟨.ot,1,0,none⟩,
 ⟨.ot,1,8,some [.f]⟩,
 ⟨.pt 42,1,8,some [.p]⟩,
 ⟨.ot,1,0,none⟩,
 ⟨.ot,1,8,some [.f]⟩,
 ⟨.ot,1,8,some [.f]⟩,
 ⟨.ot,1,8,some [.f]⟩,
 ⟨.ot,1,8,some [.f]⟩,
 ⟨.ot,1,0,none⟩,
 ⟨.ot,1,8,some [.f]⟩,
 ⟨.ot,1,8,some [.f]⟩,
 ⟨.ot,1,8,some [.f]⟩,
 ⟨.ot,1,8,some [.f]⟩,
 ⟨.ot,1,0,none⟩,
 ⟨.ot,1,8,some [.f]⟩,
 ⟨.ot,1,0,none⟩,
 ⟨.ot,1,8,some [.f]⟩,
 ⟨.ar 8 146,8,32,some [.i .u32,.i .u32,.i .u32,.i .u32,.i .u32,.i .u32,.i .u32,.i .u32]⟩,
 ⟨.ar 8 146,8,32,some [.i .u32,.i .u32,.i .u32,.i .u32,.i .u32,.i .u32,.i .u32,.i .u32]⟩,
 ⟨.ot,1,8,some [.f]⟩,
 ⟨.st [(0,1),(1,8),(9,1),(10,1)],11,72,some [.b,.i .u32,.i .u32,.i .u32,.i .u32,.i .u32,.i .u32,.i .u32,.i .u32,.l,.i .i64]⟩,
 ⟨.st [(0,1),(1,8),(9,1),(10,1)],11,72,some [.b,.i .u32,.i .u32,.i .u32,.i .u32,.i .u32,.i .u32,.i .u32,.i .u32,.l,.i .i64]⟩,
 ⟨.ot,1,8,some [.f]⟩,
 ⟨.ot,1,8,some [.f]⟩,
 ⟨.ot,1,8,some [.f]⟩,
 ⟨.ot,1,8,some [.f]⟩,
 ⟨.ot,1,8,some [.f]⟩,
 ⟨.ot,1,0,none⟩,
 ⟨.ot,1,8,some [.f]⟩,
 ⟨.ot,1,8,some [.f]⟩,
 ⟨.ot,1,8,some [.f]⟩,
 ⟨.ot,1,8,some [.f]⟩,
 ⟨.ot,1,8,some [.f]⟩,
 ⟨.ot,1,8,some [.f]⟩,
 ⟨.ot,1,8,some [.f]⟩,
 ⟨.ot,1,8,some [.f]⟩,
 ⟨.ot,1,8,some [.f]⟩,
 ⟨.ar 64 146,64,256,some [.i .u32,.i .u32,.i .u32,.i .u32,.i .u32,.i .u32,.i .u32,.i .u32,.i .u32,.i .u32,.i .u32,.i .u32,.i .u32,.i .u32,.i .u32,.i .u32,.i .u32,.i .u32,.i .u32,.i .u32,.i .u32,.i .u32,.i .u32,.i .u32,.i .u32,.i .u32,.i .u32,.i .u32,.i .u32,.i .u32,.i .u32,.i .u32,.i .u32,.i .u32,.i .u32,.i .u32,.i .u32,.i .u32,.i .u32,.i .u32,.i .u32,.i .u32,.i .u32,.i .u32,.i .u32,.i .u32,.i .u32,.i .u32,.i .u32,.i .u32,.i .u32,.i .u32,.i .u32,.i .u32,.i .u32,.i .u32,.i .u32,.i .u32,.i .u32,.i .u32,.i .u32,.i .u32,.i .u32,.i .u32]⟩,
 ⟨.ot,1,8,some [.f]⟩,
 ⟨.ot,1,8,some [.f]⟩,
 ⟨.ot,1,8,some [.f]⟩,
 ⟨.ot,1,8,some [.f]⟩,
 ⟨.ot,1,8,some [.f]⟩,
 ⟨.ot,1,8,some [.f]⟩,
 ⟨.ot,1,8,some [.f]⟩,
 ⟨.ot,1,8,some [.f]⟩,
 ⟨.sl 37,1,24,some [.l]⟩,
 ⟨.ot,1,8,some [.f]⟩,
 ⟨.ot,1,8,some [.f]⟩,
 ⟨.ot,1,8,some [.f]⟩,
 ⟨.ot,1,8,some [.f]⟩,
 ⟨.st [(0,1),(1,1),(2,1),(3,1)],4,40,some [.p,.p,.p,.s]⟩,
 ⟨.st [(0,1),(1,1),(2,1),(3,1)],4,40,some [.p,.p,.p,.s]⟩,
 ⟨.ar 0 16,0,0,some []⟩,
 ⟨.st [(0,0)],0,0,some []⟩,
 ⟨.st [(0,0)],0,0,some []⟩,
 ⟨.it .u8,1,1,some [.i .u8]⟩,
 ⟨.it .u8,1,1,some [.i .u8]⟩,
 ⟨.ot,1,8,some [.f]⟩,
 ⟨.pt 5,1,8,some [.p]⟩,
 ⟨.it .i32,1,4,some [.i .i32]⟩,
 ⟨.it .i32,1,4,some [.i .i32]⟩,
 ⟨.st [(0,1),(1,1),(2,1),(3,1),(4,1),(5,1),(6,1),(7,1),(8,1),(9,1),(10,1)],11,48,some [.i .u64,.i .u64,.i .u32,.i .u8,.i .u8,.i .u8,.i .u8,.f,.p,.i .i32,.i .i32]⟩,
 ⟨.st [(0,1),(1,1),(2,1),(3,1),(4,1),(5,1),(6,1),(7,1),(8,1),(9,1),(10,1)],11,48,some [.i .u64,.i .u64,.i .u32,.i .u8,.i .u8,.i .u8,.i .u8,.f,.p,.i .i32,.i .i32]⟩,
 ⟨.ot,1,8,some [.p]⟩]
theorem tt_ok:TT.is prog 0 tt=true:=by kernel_rfl
theorem ty {T:Nat} {i:TI} (h:tt[T]? = some i):i.is prog T=true:=by have:=TT.at_ tt_ok h;rwa [Nat.zero_add] at this
def aev (s:AS):Operand->AV
 | .tmp t=>s.t.getD t .de
 | .const v=>match v.oneCell' with
  | true=>.sc v
  | false=>.de
 | .global _=>.de
 | .func f=>.fn f []
def AS.put (s:AS) (d:Option Nat) (a:AV):AS:=
 match d with
 | some d=>⟨s.t.set d a,s.b⟩
 | none=>s
section
variable {P:Program} {X:Cx} {φ:Fi} {κ:Ka} {f:Nat->Ct} {L:Ct} {s:AS} {a:Act} {w w':World}
theorem SatW.tmp (h:SatW X φ κ f L s a w) (t:Nat):RV w φ κ X.R (s.t.getD t .de) (a.tmps.getD t undef) Ct.z:=by
 rw [List.getD_eq_getElem?_getD]
 cases hs:s.t[t]? with
 | none=>exact .de
 | some av=>
  obtain ⟨v,hv,hr⟩:=h.tm.at_ hs
  have:a.tmps.getD t undef=v:=by
   rw [Array.getD_eq_getD_getElem?];rw [Array.getElem?_toList] at hv;rw [hv];rfl
  rw [this];exact hr
theorem SatW.ev (h:SatW X φ κ f L s a w) (x:Operand):RV w φ κ X.R (aev s x) (a.eval x) Ct.z:=by
 cases x with
 | tmp t=>exact h.tmp t
 | const v=>
  show RV w φ κ X.R (match v.oneCell' with|true=>AV.sc v|false=>.de) v Ct.z
  cases hv:v.oneCell' with
  | true=>exact .sc hv
  | false=>exact .de
 | global g=>exact .de
 | func f=>exact .fn .nil
theorem SatW.evs (h:SatW X φ κ f L s a w) {x:Operand} {av:AV} (e:aev s x=av):RV w φ κ X.R av (a.eval x) Ct.z:=e ▸ h.ev x
theorem RV.sc_inv {R:Nat->Prop} {u v:Value} {S:Ct} (h:RV w φ κ R (.sc u) v S):v=u:=by cases h;rfl
theorem SatW.evc (h:SatW X φ κ f L s a w) {x:Operand} {v:Value} (e:aev s x=.sc v):a.eval x=v:=RV.sc_inv (h.evs e)
theorem SatW.puts (h:SatW X φ κ f L s a w) (d:Option Nat) {av:AV} {v:Value} (hv:RV w φ κ X.R av v Ct.z):SatW X φ κ f L (s.put d av) (a.put d v) w:=by
 cases d with
 | none=>exact h
 | some d=>exact h.put d hv
theorem SatW.blk (h:SatW X φ κ f L s a w) {x:Nat} (hx:X.R x\/∃ i,i < s.b.length/\f i x≠0):x < w.heap.size:=by
 rcases hx with hx|⟨i,hi,hx⟩
 ·exact (h.rd x hx).1
 ·have:=sumF_le f x _ i hi;exact (h.own x (by omega)).1
theorem SatW.below (h:SatW X φ κ f L s a w) (hb:Below w.heap.size w w'):SatW X φ κ f L s a w':=by
 have hR:∀ x,X.R x->w'.heap[x]? = w.heap[x]?:=fun x hx=>hb.block x (h.blk (.inl hx))
 refine ⟨RC.keep hR h.tm fun x hx=>absurd rfl hx,h.df.keep hR hb.size,fun i e he=>RS.keep hR (h.sl i e he) fun x hx=>hb.block x (h.blk (.inr ⟨i,(List.getElem?_eq_some_iff.1 he).1,hx⟩)),h.one,fun x hx=>⟨Nat.lt_of_lt_of_le (h.own x hx).1 hb.size,(h.own x hx).2⟩,fun x hx=>⟨Nat.lt_of_lt_of_le (h.rd x hx).1 hb.size,(h.rd x hx).2⟩,?_,h.bas,h.new⟩;have h0:=h.fr;exact ⟨hb.os.trans h0.os,hb.tape.trans h0.tape,hb.output.trans h0.output,Nat.le_trans h0.size hb.size,fun x hx hS=>(hb.block x (Nat.lt_of_lt_of_le hx h0.size)).trans (h0.block x hx hS)⟩
theorem SatW.rvb (h:SatW X φ κ f L s a w) (hb:Below w.heap.size w w') {av:AV} {v:Value} (hv:RV w φ κ X.R av v Ct.z):RV w' φ κ X.R av v Ct.z:=
 RV.keep (fun x hx=>hb.block x (h.blk (.inl hx))) hv fun x hx=>absurd rfl hx
def lift (X:Cx) (Q:Exit->AS->Prop):Exit->Act->World->Prop:=fun e a w=>∃ s,Q e s/\Sat X s a w
def AP (P:Program) (X:Cx) (ops:Array Oper) (Q:Exit->AS->Prop) (l:List Oper) (s:AS):Prop:=∀ a w,Sat X s a w->wpL X.ρ P ops (lift X Q) l a w
def Pq (P:Program) (X:Cx) (s:AS) (o:Oper) (av:AV):Prop:=
 ∀ X' φ κ f a w,X.le X'->SatW X' φ κ f Ct.z s a w->∃ v,RV w φ κ X'.R av v Ct.z/\∀ w',Below w.heap.size w w'->o.quietAt P a (Below w.heap.size w) w' v
theorem Pq.of_run {o:Oper} {av:AV} (h:∀ X φ κ f a w,SatW X φ κ f Ct.z s a w->∃ v,RV w φ κ X.R av v Ct.z/\∀ w',Below w.heap.size w w'->(execOp a.eval o).run P w'=.ok (.value v) w'):Pq P X s o av:=
 fun X' φ κ f a w _ hs=>by
  obtain ⟨v,hv,hr⟩:=h X' φ κ f a w hs;exact ⟨v,hv,fun w' hw'=>by simp [Oper.quietAt,hr w' hw',Oper.quietUpon]⟩
variable {ops:Array Oper} {rest:List Oper} {o:Oper} {av:AV} {Q:Exit->AS->Prop}
theorem AP.nil (h:Q .normal s):AP P X ops Q [] s:=fun _ _ hs=>⟨s,h,hs⟩
theorem AP.pure (hg:o.guard=none) (h:Pq P X s o av) (K:AP P X ops Q rest (s.put o.dst av)):AP P X ops Q (o :: rest) s:=by
 rintro a w ⟨X',φ,κ,f,hX,hs⟩;obtain ⟨v,hv,hq⟩:=h X' φ κ f a w hX hs;refine wpL_plain hg fun K' hK'=>?_
 exact wpO_quiet (C:=Below w.heap.size w) (Below.refl _ _) (hq _ (Below.refl _ _)) fun w' hw'=>hK' _ _ (K _ _ ⟨X',φ,κ,f,hX,(hs.below hw').puts _ (hs.rvb hw' hv)⟩)
theorem pq_move {x:Operand} (ho:o.op=.move x):Pq P X s o (aev s x):=.of_run fun X φ κ f a w hs=>⟨_,hs.ev x,fun w' _=>by simp [execOp,ho,go_sem]⟩
theorem pq_assign {x:Operand} (ho:o.op=.assign x):Pq P X s o (aev s x):=.of_run fun X φ κ f a w hs=>⟨_,hs.ev x,fun w' _=>by simp [execOp,ho,go_sem]⟩
theorem pq_pick {c x y:Operand} {b:Bool} (ho:o.op=.pick c x y) (hc:aev s c=.sc (.bool b)):Pq P X s o (match b with|true=>aev s x|false=>aev s y):=.of_run fun X φ κ f a w hs=>by
 have h1:=hs.evc hc
 cases b with
 | true=>exact ⟨_,hs.ev x,fun w' _=>by simp only [execOp,ho,h1];simp [go_sem]⟩
 | false=>exact ⟨_,hs.ev y,fun w' _=>by simp only [execOp,ho,h1];simp [go_sem]⟩
def binI (op:BinOp) (k:IntKind) (a b:Int):Option Value:=
 match op with
 | .add=>some (.int k (k.wrap (a + b)))
 | .sub=>some (.int k (k.wrap (a - b)))
 | .mul=>some (.int k (k.wrap (a * b)))
 | .and=>some (.int k (k.wrap ((BitVec.ofInt k.bits a) &&& (BitVec.ofInt k.bits b)).toNat))
 | .or=>some (.int k (k.wrap ((BitVec.ofInt k.bits a) ||| (BitVec.ofInt k.bits b)).toNat))
 | .xor=>some (.int k (k.wrap ((BitVec.ofInt k.bits a) ^^^ (BitVec.ofInt k.bits b)).toNat))
 | .eql=>some (.bool (a == b))
 | .neq=>some (.bool (a != b))
 | .lss=>some (.bool (decide (a < b)))
 | .leq=>some (.bool (decide (a<=b)))
 | .gtr=>some (.bool (decide (b < a)))
 | .geq=>some (.bool (decide (b<=a)))
 | _=>none
theorem binI_one {op:BinOp} {k:IntKind} {a b:Int} {v:Value} (h:binI op k a b=some v):v.oneCell'=true:=by
 unfold binI at h;split at h<;>first|(injection h with h;subst h;rfl)|cases h
theorem pq_bin {op:BinOp} {T T':TypeId} {x y:Operand} {k:IntKind} {i j:Int} {v:Value} (ho:o.op=.binOp op T x y T') (hx:aev s x=.sc (.int k i)) (hy:aev s y=.sc (.int k j)) (hv:binI op k i j=some v):Pq P X s o (.sc v):=.of_run fun X φ κ f a w hs=>by
 have h1:=hs.evc hx;have h2:=hs.evc hy;refine ⟨v,.sc (binI_one hv),fun w' _=>?_⟩;unfold binI at hv
 cases op<;>simp only [Option.some.injEq,reduceCtorEq] at hv<;>subst hv<;>simp only [execOp,ho,h1,h2] <;>
  simp [eqGuard,binOp,Op.intArith,Op.intCmp,Op.intBits,Sem.run_bind,Sem.run_pure,go_sem]
theorem pq_quo {T T':TypeId} {x y:Operand} {k:IntKind} {i j:Int} (ho:o.op=.binOp .quo T x y T') (hx:aev s x=.sc (.int k i)) (hy:aev s y=.sc (.int k j)) (hj:j≠0):Pq P X s o (.sc (.int k (k.wrap (i.tdiv j)))):=.of_run fun X φ κ f a w hs=>by
 have h1:=hs.evc hx;have h2:=hs.evc hy;refine ⟨_,.sc rfl,fun w' _=>?_⟩;simp only [execOp,ho,h1,h2];simp [eqGuard,binOp,Op.intDiv,hj,go_sem]
theorem pq_rem {T T':TypeId} {x y:Operand} {k:IntKind} {i j:Int} (ho:o.op=.binOp .rem T x y T') (hx:aev s x=.sc (.int k i)) (hy:aev s y=.sc (.int k j)) (hj:j≠0):Pq P X s o (.sc (.int k (i.tmod j))):=.of_run fun X φ κ f a w hs=>by
 have h1:=hs.evc hx;have h2:=hs.evc hy;refine ⟨_,.sc rfl,fun w' _=>?_⟩;simp only [execOp,ho,h1,h2];simp [eqGuard,binOp,Op.intDiv,hj,go_sem]
theorem pq_shl {T T':TypeId} {x y:Operand} {k k':IntKind} {i j:Int} (ho:o.op=.binOp .shl T x y T') (hx:aev s x=.sc (.int k i)) (hy:aev s y=.sc (.int k' j)) (hj:0<=j):Pq P X s o (.sc (.int k (k.wrap (i * 2 ^ (min j.toNat k.bits))))):=.of_run fun X φ κ f a w hs=>by
 have h1:=hs.evc hx;have h2:=hs.evc hy;refine ⟨_,.sc rfl,fun w' _=>?_⟩;simp only [execOp,ho,h1,h2];simp [eqGuard,binOp,Op.shift,show ¬ j < 0 by omega,go_sem]
theorem pq_shr {T T':TypeId} {x y:Operand} {k k':IntKind} {i j:Int} (ho:o.op=.binOp .shr T x y T') (hx:aev s x=.sc (.int k i)) (hy:aev s y=.sc (.int k' j)) (hj:0<=j):Pq P X s o (.sc (.int k (i.fdiv (2 ^ (min j.toNat k.bits))))):=.of_run fun X φ κ f a w hs=>by
 have h1:=hs.evc hx;have h2:=hs.evc hy;refine ⟨_,.sc rfl,fun w' _=>?_⟩;simp only [execOp,ho,h1,h2];simp [eqGuard,binOp,Op.shift,show ¬ j < 0 by omega,go_sem]
def binB (op:BinOp) (a b:Bool):Option Bool:=
 match op with
 | .eql=>some (a == b)
 | .neq=>some (a != b)
 | _=>none
theorem pq_binB {op:BinOp} {T T':TypeId} {x y:Operand} {p q r:Bool} (ho:o.op=.binOp op T x y T') (hx:aev s x=.sc (.bool p)) (hy:aev s y=.sc (.bool q)) (hv:binB op p q=some r) (ht:P.underlying T=some .bool):Pq P X s o (.sc (.bool r)):=.of_run fun X φ κ f a w hs=>by
 have h1:=hs.evc hx;have h2:=hs.evc hy;refine ⟨_,.sc rfl,fun w' _=>?_⟩;unfold binB at hv
 cases op<;>simp only [Option.some.injEq,reduceCtorEq] at hv<;>subst hv<;>simp only [execOp,ho,h1,h2] <;>
  simp [eqGuard,binOp,run_equal_bool,ht,go_sem]<;>(cases p<;>cases q<;>rfl)
theorem pq_not {T:TypeId} {x:Operand} {p:Bool} (ho:o.op=.unOp .not T x) (hx:aev s x=.sc (.bool p)):Pq P X s o (.sc (.bool (!p))):=.of_run fun X φ κ f a w hs=>by
 have h1:=hs.evc hx;exact ⟨_,.sc rfl,fun w' _=>by simp only [execOp,ho,h1];simp [Op.unary,go_sem]⟩
theorem pq_neg {T:TypeId} {x:Operand} {k:IntKind} {i:Int} (ho:o.op=.unOp .neg T x) (hx:aev s x=.sc (.int k i)):Pq P X s o (.sc (.int k (k.wrap (0 - i)))):=.of_run fun X φ κ f a w hs=>by
 have h1:=hs.evc hx;exact ⟨_,.sc rfl,fun w' _=>by simp only [execOp,ho,h1];simp [Op.unary,Op.intArith,go_sem]⟩
theorem pq_xor1 {T:TypeId} {x:Operand} {k:IntKind} {i:Int} (ho:o.op=.unOp .xor T x) (hx:aev s x=.sc (.int k i)):Pq P X s o (.sc (.int k (k.wrap ((BitVec.ofInt k.bits (if k.signed then -1 else k.max)) ^^^ (BitVec.ofInt k.bits i)).toNat))):=.of_run fun X φ κ f a w hs=>by
 have h1:=hs.evc hx;exact ⟨_,.sc rfl,fun w' _=>by simp only [execOp,ho,h1];simp [Op.unary,Op.intBits,go_sem]⟩
theorem pq_conv {S T:TypeId} {x:Operand} {k k':IntKind} {i:Int} {j:TI} (ho:o.op=.convert S T x) (hx:aev s x=.sc (.int k' i)) (hS:∃ d,P.underlying S=some d) (hT:P.underlying T=some (.int k)):Pq P X s o (.sc (.int k (k.wrap i))):=.of_run fun X φ κ f a w hs=>by
 have h1:=hs.evc hx;obtain ⟨d,hS⟩:=hS;exact ⟨_,.sc rfl,fun w' _=>by simp only [execOp,ho,h1];simp [convert,run_underlying hS,run_underlying hT,Conv.intToInt,go_sem]⟩
theorem pq_extract {x:Operand} {n:Nat} {l:List AV} (ho:o.op=.extract x n) (hx:aev s x=.tu l) (hn:l[n]? = some av):Pq P X s o av:=.of_run fun X φ κ f a w hs=>by
 have h1:=hs.evs hx;generalize hv:a.eval x=v at h1
 cases h1 with
 | tu hc=>
  obtain ⟨u,hu,hr⟩:=hc.at_ hn;refine ⟨u,hr,fun w' _=>?_⟩;simp only [execOp,ho,hv];simp [Instr.extract,hu,go_sem]
end
theorem ty_row {T:Nat} {i:TI} (h:tt[T]? = some i) (hk:(match i.kd with | .st _=>true | .ar _ _=>true | _=>false)=true) :
 ∃ d,prog.underlying T=some d/\d.isRow=true/\(prog.info? T).map (·.size)=some i.size:=by
 obtain ⟨d,j,hd,hj,h1,h2,_⟩:=TI.parts (ty h);refine ⟨d,hd,?_,by rw [hj];simp [h2]⟩
 cases hk':i.kd<;>rw [hk'] at h1 hk<;>first|(cases hk;done)|(cases d<;>first|rfl|(simp [Kd.is] at h1;done))
theorem ty_flat {T:Nat} {i:TI} (h:tt[T]? = some i) (hk:(match i.kd with | .st _=>true | .ar _ _=>true | _=>false)=false) :
 ∃ d,prog.underlying T=some d/\d.isRow=false/\(prog.info? T).map (·.size)=some i.size:=by
 obtain ⟨d,j,hd,hj,h1,h2,_⟩:=TI.parts (ty h);refine ⟨d,hd,?_,by rw [hj];simp [h2]⟩
 cases hk':i.kd<;>rw [hk'] at h1 hk<;>first|(cases hk;done)|(cases d<;>first|rfl|(simp [Kd.is] at h1;done))
theorem ty_bo {T:Nat} {i:TI} (h:tt[T]? = some i) (hk:i.kd=.bo):prog.underlying T=some .bool:=by
 obtain ⟨d,j,hd,hj,h1,_⟩:=TI.parts (ty h);rw [hk] at h1
 cases d<;>first|exact hd|(simp [Kd.is] at h1;done)
theorem ty_sr {T:Nat} {i:TI} (h:tt[T]? = some i) (hk:i.kd=.sr):prog.underlying T=some .string:=by
 obtain ⟨d,j,hd,hj,h1,_⟩:=TI.parts (ty h);rw [hk] at h1
 cases d<;>first|exact hd|(simp [Kd.is] at h1;done)
theorem ty_it {T:Nat} {i:TI} {k:IntKind} (h:tt[T]? = some i) (hk:i.kd=.it k):prog.underlying T=some (.int k):=by
 obtain ⟨d,j,hd,hj,h1,_⟩:=TI.parts (ty h);rw [hk] at h1
 cases d<;>first|(simp only [Kd.is] at h1;have:=eq_of_beq h1;subst this;exact hd)|(simp [Kd.is] at h1;done)
theorem ty_sl {T:Nat} {i:TI} {e:Nat} (h:tt[T]? = some i) (hk:i.kd=.sl e):prog.underlying T=some (.slice e):=by
 obtain ⟨d,j,hd,hj,h1,_⟩:=TI.parts (ty h);rw [hk] at h1
 cases d<;>first|(simp only [Kd.is] at h1;have:=eq_of_beq h1;subst this;exact hd)|(simp [Kd.is] at h1;done)
theorem ty_pt {T:Nat} {i:TI} {e:Nat} (h:tt[T]? = some i) (hk:i.kd=.pt e):prog.underlying T=some (.pointer e):=by
 obtain ⟨d,j,hd,hj,h1,_⟩:=TI.parts (ty h);rw [hk] at h1
 cases d<;>first|(simp only [Kd.is] at h1;have:=eq_of_beq h1;subst this;exact hd)|(simp [Kd.is] at h1;done)
theorem ty_ar {T:Nat} {i:TI} {n e:Nat} (h:tt[T]? = some i) (hk:i.kd=.ar n e):prog.underlying T=some (.array n e):=by
 obtain ⟨d,j,hd,hj,h1,_⟩:=TI.parts (ty h);rw [hk] at h1
 cases d<;>first|(simp only [Kd.is,Bool.and_eq_true] at h1;have:=eq_of_beq h1.1;have:=eq_of_beq h1.2;subst_vars;exact hd)|(simp [Kd.is] at h1;done)
theorem ty_size {T:Nat} {i:TI} (h:tt[T]? = some i) (w:World):(sizeOf T).run prog w=.ok i.size w:=by
 obtain ⟨d,j,hd,hj,h1,h2,_⟩:=TI.parts (ty h);simp [sizeOf,typeInfo,hj,h2,go_sem]
section
variable {X:Cx} {φ:Fi} {κ:Ka} {f:Nat->Ct} {L:Ct} {s:AS} {a:Act} {w w':World} {o:Oper} {av:AV}
theorem SatW.cells (h:SatW X φ κ f L s a w) (hb:Below w.heap.size w w') {x:Operand} {b u off:Nat} {T:TypeId} {l:List AV} (hx:aev s x=.bp b u off) (hs:s.b[b]? = some ⟨u,.c T l⟩) :
 ∃ g vs,a.eval x=.pointer (some ⟨g,off,none⟩)/\w'.heap[g]? = some (.cells vs.toArray T (0,0))/\RC w φ κ X.R l vs Ct.z/\(∀ v∈vs,v.oneCell'=true):=by
 have h1:=h.evs hx;have h2:=h.sl b _ hs;generalize a.eval x=p at h1
 cases h1 with
 | bp hg=>
  cases h2 with
  | c hg' hh hr ho hS=>
   rw [hg] at hg';injection hg' with hg';subst hg'
   refine ⟨_,_,rfl,?_,hr,ho⟩;rw [hb.block _ (h.blk (.inr ⟨b,(List.getElem?_eq_some_iff.1 hs).1,by rw [hS];simp⟩))];exact hh
theorem run_loadAt_flat {T:TypeId} {d:TypeDesc} {b o:Nat} {v:Value} (w:World) (hu:prog.underlying T=some d) (hd:d.isRow=false) (hc:w.cell? ⟨b,o,none⟩=some v):(Instr.loadAt T (.pointer (some ⟨b,o,none⟩))).run prog w=.ok v w:=by
 have hagg:(isAgg T).run prog w=.ok false w:=by
  unfold isAgg;rw [Sem.run_bind,run_underlying hu w]
  cases d<;>first|rfl|(simp [TypeDesc.isRow] at hd;done)
 simp [Instr.loadAt,Instr.sureAddr,loadVar,hagg,load,hc,Sem.run,go_sem]
theorem pq_load1 {T T':TypeId} {x:Operand} {b u off:Nat} {l:List AV} {i:TI} (ho:o.op=.load T x) (hx:aev s x=.bp b u off) (hs:s.b[b]? = some ⟨u,.c T' l⟩)
 (hT:tt[T]? = some i) (hk:(match i.kd with | .st _=>true | .ar _ _=>true | _=>false)=false) (hl:l[off]? = some av):Pq prog X s o av:=.of_run fun X φ κ f a w h=>by
 obtain ⟨d,hd,hr,_⟩:=ty_flat hT hk;obtain ⟨g,vs,he,hh,hc,_⟩:=h.cells (Below.refl _ _) hx hs;obtain ⟨v,hv,hrv⟩:=hc.at_ hl;refine ⟨v,hrv,fun w' hb=>?_⟩;obtain ⟨g',vs',he',hh',hc',_⟩:=h.cells hb hx hs;rw [he] at he';injection he' with he';injection he' with he';injection he' with he' _;subst he'
 have hh0:w'.heap[g]? = w.heap[g]?:=hb.block g (Array.getElem?_eq_some_iff.1 hh).1
 have hcell:w'.cell? ⟨g,off,none⟩=some v:=by
  rw [cell_of_row w' g off vs.toArray T' (0,0) (hh0.trans hh)];simpa using hv
 simp only [execOp,ho,he,Sem.run_bind,run_loadAt_flat w' hd hr hcell];simp [go_sem]
theorem RC.drop_ {R:Nat->Prop} {l:List AV} {us:List Value} (h:RC w φ κ R l us Ct.z) (n m:Nat):RC w φ κ R ((l.drop n).take m) ((us.drop n).take m) Ct.z:=
 RC.of_at (by simp [h.length]) fun i a hi=>by
  rw [List.getElem?_take] at hi ⊢;split at hi
  ·rename_i him
   rw [if_pos him,List.getElem?_drop];rw [List.getElem?_drop] at hi;exact h.at_ hi
  ·cases hi
theorem pq_loadN {T T':TypeId} {x:Operand} {b u off:Nat} {l:List AV} {i:TI} (ho:o.op=.load T x) (hx:aev s x=.bp b u off) (hs:s.b[b]? = some ⟨u,.c T' l⟩)
 (hT:tt[T]? = some i) (hk:(match i.kd with | .st _=>true | .ar _ _=>true | _=>false)=true) (hl:Nat.ble (off + i.size) l.length=true):Pq prog X s o (.ag ((l.drop off).take i.size)):=.of_run fun X φ κ f a w h=>by
 have hl:=Nat.le_of_ble_eq_true hl;obtain ⟨d,hd,hr,hi⟩:=ty_row hT hk;obtain ⟨g,vs,he,hh,hc,h1⟩:=h.cells (Below.refl _ _) hx hs;have hlen:=hc.length;refine ⟨_,.ag (hc.drop_ off i.size) (fun v hv=>h1 v (List.mem_of_mem_drop (List.mem_of_mem_take hv))),fun w' hb=>?_⟩;have hh0:w'.heap[g]? = w.heap[g]?:=hb.block g (Array.getElem?_eq_some_iff.1 hh).1
 have hrange:w'.rangeAt g off ((vs.drop off).take i.size):=fun j v hv=>by
  rw [cell_of_row w' g (off + j) vs.toArray T' (0,0) (hh0.trans hh)];rw [List.getElem?_take] at hv;split at hv
  ·rw [List.getElem?_drop] at hv;simpa using hv
  ·cases hv
 simp only [execOp,ho,he,Sem.run_bind,run_loadAt_mid w' g off T _ d hrange hd hr (by rw [hi];simp;omega)];simp [go_sem]
theorem RE.at' {R:Nat->Prop} {k:Nat}:∀ {s:List (List AV)} {us:List Value} {S:Ct},RE w φ κ R k s us S->∀ {i:Nat} {c:List AV},s[i]? = some c->∃ cs T,RC w φ κ R c cs T/\cs.length=k/\((∀ u∈cs,u.oneCell'=true)/\∀ x∈c,x.leaf=true)/\∀ j u,cs[j]? = some u->us[i * k + j]? = some u
 | _,_,_,.nil,i,a,h=>by simp at h
 | _,_,_,.cons (us:=us) (vs:=vs) h1 hk o b c,i,a,h=>by
  cases i with
  | zero=>
   simp at h;subst h
   refine ⟨us,_,h1,hk,o,fun j u hu=>?_⟩;have hj:j < us.length:=(List.getElem?_eq_some_iff.1 hu).1
   simpa [List.getElem?_append_left hj] using hu
  | succ i=>
   simp at h;obtain ⟨cs,T,hr,hl,ho,hc⟩:=RE.at' b h;refine ⟨cs,T,hr,hl,ho,fun j u hu=>?_⟩;rw [List.getElem?_append_right (by rw [hk,Nat.add_mul];omega),hk];rw [show (i + 1) * k + j - k=i * k + j by rw [Nat.add_mul];omega];exact hc j u hu
theorem RC.at' {R:Nat->Prop}:∀ {l:List AV} {us:List Value} {S:Ct},RC w φ κ R l us S->(∀ x∈l,x.leaf=true)->∀ {i:Nat} {a:AV},l[i]? = some a->∃ v,us[i]? = some v/\RV w φ κ R a.cp v Ct.z
 | _,_,_,h,hl,i,a,hi=>by
  have:=h.cp hl;obtain ⟨v,hv,hr⟩:=this.at_ (i:=i) (a:=a.cp) (by simp [hi]);exact ⟨v,hv,hr⟩
theorem SatW.elem (h:SatW X φ κ f L s a w) {x:Operand} {k i off:Nat} {s':List (List AV)} {c:List AV} (hx:aev s x=.rp k s' i off) (hc:s'[i]? = some c) :
 ∃ g o cs,a.eval x=.pointer (some ⟨g,o + off,none⟩)/\RC w φ κ X.R c cs Ct.z/\cs.length=k/\(∀ u∈cs,u.oneCell'=true)/\∀ w',Below w.heap.size w w'->w'.rangeAt g o cs:=by
 have h1:=h.evs hx;generalize a.eval x=p at h1
 cases h1 with
 | rp he hR hcell=>
  rename_i g o us
  obtain ⟨cs,hr,hk,h1,hat⟩:=he.at_ hc;refine ⟨g,o + i * k,cs,by rw [Nat.add_assoc],hr,hk,h1.1,fun w' hb j v hv=>?_⟩;rw [World.cell?_of_block (a:=⟨g,_,none⟩) (hb.block g (h.blk (.inl hR)))];have:=hcell _ _ (hat j v hv)
  rwa [show o + i * k + j=o + (i * k + j) by omega]
theorem SatW.elemo (h:SatW X φ κ f L s a w) {x:Operand} {b u k i off e:Nat} {s':List (List AV)} {c:List AV} (hx:aev s x=.ep b u k i off) (hs:s.b[b]? = some ⟨u,.r e k s'⟩) (hc:s'[i]? = some c) :
 ∃ g cs,a.eval x=.pointer (some ⟨g,i * k + off,none⟩)/\(∃ T,RC w φ κ X.R c cs T)/\(∀ x∈c,x.leaf=true)/\cs.length=k/\(∀ u∈cs,u.oneCell'=true)/\∀ w',Below w.heap.size w w'->w'.rangeAt g (i * k) cs:=by
 have h1:=h.evs hx;have h2:=h.sl b _ hs;have hown:∀ x,f b x≠0->x < w.heap.size:=fun x hx=>h.blk (.inr ⟨b,(List.getElem?_eq_some_iff.1 hs).1,hx⟩)
 generalize f b=S0 at h2 hown;generalize a.eval x=p at h1
 cases h1 with
 | @ep _ _ _ _ _ g _ _ hκ=>
  cases h2 with
  | r hκ' hv=>
   rw [hκ] at hκ';injection hκ' with hκ';subst hκ'
   cases hv with
   | ne=>simp at hc
   | @om _ _ _ _ _ cur us _ _ he hh hle hm hsz htk hS=>
    obtain ⟨cs,T,hr,hk,h1,hat⟩:=RE.at' he hc;refine ⟨g,cs,rfl,⟨T,hr⟩,h1.2,hk,h1.1,fun w' hb j v hv=>?_⟩;have hg:g < w.heap.size:=hown g (by rw [hS];simp);rw [(Mk.keep (hb.block g hg) hh).cell (i * k + j)];have:=hat j v hv;rw [←htk,List.getElem?_take] at this;split at this
    ·simpa using this
    ·cases this
theorem pq_load1_rp {T:TypeId} {x:Operand} {k i off:Nat} {s':List (List AV)} {c:List AV} {ti:TI} (ho:o.op=.load T x) (hx:aev s x=.rp k s' i off)
 (hT:tt[T]? = some ti) (hk:(match ti.kd with | .st _=>true | .ar _ _=>true | _=>false)=false) (hcl:s'[i]? = some c/\c[off]? = some av):Pq prog X s o av:=.of_run fun X φ κ f a w h=>by
 obtain ⟨hc,hl⟩:=hcl;obtain ⟨d,hd,hr,_⟩:=ty_flat hT hk;obtain ⟨g,o',cs,he,hrc,hkl,_,hrange⟩:=h.elem hx hc;obtain ⟨v,hv,hrv⟩:=hrc.at_ hl;refine ⟨v,hrv,fun w' hb=>?_⟩;simp only [execOp,ho,he,Sem.run_bind,run_loadAt_flat w' hd hr (hrange w' hb off v hv)];simp [go_sem]
theorem pq_loadN_rp {T:TypeId} {x:Operand} {k i off:Nat} {s':List (List AV)} {c:List AV} {ti:TI} (ho:o.op=.load T x) (hx:aev s x=.rp k s' i off)
 (hT:tt[T]? = some ti) (hk:(match ti.kd with | .st _=>true | .ar _ _=>true | _=>false)=true) (hcl:s'[i]? = some c/\Nat.ble (off + ti.size) c.length=true):Pq prog X s o (.ag ((c.drop off).take ti.size)):=.of_run fun X φ κ f a w h=>by
 obtain ⟨hc,hl⟩:=hcl;have hl:=Nat.le_of_ble_eq_true hl;obtain ⟨d,hd,hr,hi⟩:=ty_row hT hk;obtain ⟨g,o',cs,he,hrc,hkl,h1,hrange⟩:=h.elem hx hc;have hlen:=hrc.length;refine ⟨_,.ag (hrc.drop_ off ti.size) (fun v hv=>h1 v (List.mem_of_mem_drop (List.mem_of_mem_take hv))),fun w' hb=>?_⟩
 have hr2:w'.rangeAt g (o' + off) ((cs.drop off).take ti.size):=fun j v hv=>by
  rw [List.getElem?_take] at hv;split at hv
  ·rw [List.getElem?_drop] at hv;have:=hrange w' hb _ _ hv
   rwa [show o' + off + j=o' + (off + j) by omega]
  ·cases hv
 simp only [execOp,ho,he,Sem.run_bind,run_loadAt_mid w' g (o' + off) T _ d hr2 hd hr (by rw [hi];simp;omega)];simp [go_sem]
theorem pq_load1_ep {T:TypeId} {x:Operand} {b u k i off e:Nat} {s':List (List AV)} {c:List AV} {ti:TI} (ho:o.op=.load T x) (hx:aev s x=.ep b u k i off) (hs:s.b[b]? = some ⟨u,.r e k s'⟩)
 (hT:tt[T]? = some ti) (hk:(match ti.kd with | .st _=>true | .ar _ _=>true | _=>false)=false) (hcl:s'[i]? = some c/\c[off]? = some av):Pq prog X s o av.cp:=.of_run fun X φ κ f a w h=>by
 obtain ⟨hc,hl⟩:=hcl;obtain ⟨d,hd,hr,_⟩:=ty_flat hT hk;obtain ⟨g,cs,he,⟨S,hrc⟩,hlf,hkl,_,hrange⟩:=h.elemo hx hs hc;obtain ⟨v,hv,hrv⟩:=hrc.at' hlf hl;refine ⟨v,hrv,fun w' hb=>?_⟩;simp only [execOp,ho,he,Sem.run_bind,run_loadAt_flat w' hd hr (hrange w' hb off v hv)];simp [go_sem]
theorem pq_loadN_ep {T:TypeId} {x:Operand} {b u k i off e:Nat} {s':List (List AV)} {c:List AV} {ti:TI} (ho:o.op=.load T x) (hx:aev s x=.ep b u k i off) (hs:s.b[b]? = some ⟨u,.r e k s'⟩)
 (hT:tt[T]? = some ti) (hk:(match ti.kd with | .st _=>true | .ar _ _=>true | _=>false)=true) (hcl:s'[i]? = some c/\Nat.ble (off + ti.size) c.length=true):Pq prog X s o (.ag (((c.map AV.cp).drop off).take ti.size)):=.of_run fun X φ κ f a w h=>by
 obtain ⟨hc,hl⟩:=hcl;have hl:=Nat.le_of_ble_eq_true hl;obtain ⟨d,hd,hr,hi⟩:=ty_row hT hk;obtain ⟨g,cs,he,⟨S,hrc⟩,hlf,hkl,h1,hrange⟩:=h.elemo hx hs hc;have hrc:=hrc.cp hlf;have hlen:=hrc.length;simp only [List.length_map] at hlen;refine ⟨_,.ag (hrc.drop_ off ti.size) (fun v hv=>h1 v (List.mem_of_mem_drop (List.mem_of_mem_take hv))),fun w' hb=>?_⟩
 have hr2:w'.rangeAt g (i * k + off) ((cs.drop off).take ti.size):=fun j v hv=>by
  rw [List.getElem?_take] at hv;split at hv
  ·rw [List.getElem?_drop] at hv;have:=hrange w' hb _ _ hv
   rwa [show i * k + off + j=i * k + (off + j) by omega]
  ·cases hv
 simp only [execOp,ho,he,Sem.run_bind,run_loadAt_mid w' g (i * k + off) T _ d hr2 hd hr (by rw [hi];simp;omega)];simp [go_sem]
theorem addr_mid (b o j:Nat):(⟨b,o,none⟩:Addr).add j=⟨b,o + j,none⟩:=Addr.add_mid b o j
theorem run_field {T n o' z g off:Nat} {i:TI} {fl:List (Nat×Nat)} (hT:tt[T]? = some i) (hk:i.kd=.st fl) (hn:fl[n]? = some (o',z)) (hz:0 < z) (w:World) :
 (Instr.fieldAt T (.pointer (some ⟨g,off,none⟩)) n).run prog w=.ok (.pointer (some ⟨g,off + o',none⟩)) w:=by
 obtain ⟨fs,hu,hf⟩:=TI.row (ty hT) hk;obtain ⟨x,hx,rfl,hs⟩:=hf n o' z hn
 have hsz:(sizeOf x.type).run prog w=.ok z w:=by
  cases hq:prog.info? x.type with
  | none=>rw [hq] at hs;simp at hs;omega
  | some j=>rw [hq] at hs;simp at hs;simp [sizeOf,typeInfo,hq,hs,go_sem]
 simp [Instr.fieldAt,run_underlying hu,hx,Instr.sureAddr,fieldPlace,hsz,show ¬ z=0 by omega,addr_mid,go_sem]
theorem pq_field {T n:Nat} {x:Operand} {b u off o' z:Nat} {i:TI} {fl:List (Nat×Nat)} (ho:o.op=.fieldAddr T x n) (hx:aev s x=.bp b u off) (hT:tt[T]? = some i) (hk:i.kd=.st fl) (hn:fl[n]? = some (o',z)) (hz:Nat.ble 1 z=true):Pq prog X s o (.bp b u (off + o')):=.of_run fun X φ κ f a w h=>by
 have hz:0 < z:=Nat.le_of_ble_eq_true hz;have h1:=h.evs hx;generalize hp:a.eval x=p at h1
 cases h1 with
 | bp hg=>exact ⟨_,.bp hg,fun w' _=>by simp only [execOp,ho,hp,Sem.run_bind,run_field hT hk hn hz w'];simp [go_sem]⟩
theorem pq_field_rp {T n:Nat} {x:Operand} {k j off o' z:Nat} {s':List (List AV)} {i:TI} {fl:List (Nat×Nat)} (ho:o.op=.fieldAddr T x n) (hx:aev s x=.rp k s' j off) (hT:tt[T]? = some i) (hk:i.kd=.st fl) (hn:fl[n]? = some (o',z)) (hz:Nat.ble 1 z=true):Pq prog X s o (.rp k s' j (off + o')):=.of_run fun X φ κ f a w h=>by
 have hz:0 < z:=Nat.le_of_ble_eq_true hz;have h1:=h.evs hx;generalize hp:a.eval x=p at h1
 cases h1 with
 | rp he hR hc=>exact ⟨_,.rp he hR hc,fun w' _=>by simp only [execOp,ho,hp,Sem.run_bind,run_field hT hk hn hz w'];simp [go_sem,Nat.add_assoc]⟩
theorem pq_field_ep {T n:Nat} {x:Operand} {b u k j off o' z:Nat} {i:TI} {fl:List (Nat×Nat)} (ho:o.op=.fieldAddr T x n) (hx:aev s x=.ep b u k j off) (hT:tt[T]? = some i) (hk:i.kd=.st fl) (hn:fl[n]? = some (o',z)) (hz:Nat.ble 1 z=true):Pq prog X s o (.ep b u k j (off + o')):=.of_run fun X φ κ f a w h=>by
 have hz:0 < z:=Nat.le_of_ble_eq_true hz;have h1:=h.evs hx;generalize hp:a.eval x=p at h1
 cases h1 with
 | ep hκ=>exact ⟨_,.ep hκ,fun w' _=>by simp only [execOp,ho,hp,Sem.run_bind,run_field hT hk hn hz w'];simp [go_sem,Nat.add_assoc]⟩
theorem run_index {T e:Nat} {i ie:TI} {g off n c:Nat} {k:IntKind} {j:Int} (hT:tt[T]? = some i) (hk:i.kd=.sl e) (he:tt[e]? = some ie) (h0:0<=j) (hj:j < n) (w:World) :
 (Instr.indexAt T (.slice (some ⟨g,off,none⟩) n c) (.int k j)).run prog w=.ok (.pointer (some ⟨g,off + j.toNat * ie.size,none⟩)) w:=by
 simp [Instr.indexAt,asIntOf,run_underlying (ty_sl hT hk),ty_size he,h0,hj,addr_mid,go_sem]
theorem pq_index_ro {T e:Nat} {x y:Operand} {k:Nat} {s':List (List AV)} {i ie:TI} {kk:IntKind} {j:Int} (ho:o.op=.indexAddr T x y) (hx:aev s x=.sl none k s') (hy:aev s y=.sc (.int kk j)) (hT:tt[T]? = some i) (hk:i.kd=.sl e) (he:tt[e]? = some ie) (hsz:ie.size=k)
 (h0:0<=j) (hj:j < s'.length):Pq prog X s o (.rp k s' j.toNat 0):=.of_run fun X φ κ f a w h=>by
 have h1:=h.evs hx;have h2:=h.evc hy;generalize hp:a.eval x=p at h1
 cases h1 with
 | ni=>simp at hj;omega
 | ne=>simp at hj;omega
 | ro hre hle hm hR hc=>
  rename_i b o'' c us
  refine ⟨_,.rp hre (hR (by rintro rfl;simp at hj;omega)) hc,fun w' _=>?_⟩;simp only [execOp,ho,hp,h2,Sem.run_bind,run_index hT hk he h0 hj w'];simp [go_sem,hsz]
theorem pq_index_hd {T e:Nat} {x y:Operand} {b u k e':Nat} {s':List (List AV)} {i ie:TI} {kk:IntKind} {j:Int} (ho:o.op=.indexAddr T x y) (hx:aev s x=.hd b u) (hs:s.b[b]? = some ⟨u,.r e' k s'⟩) (hy:aev s y=.sc (.int kk j)) (hT:tt[T]? = some i) (hk:i.kd=.sl e) (he:tt[e]? = some ie) (hsz:ie.size=k)
 (h0:0<=j) (hj:j < s'.length):Pq prog X s o (.ep b u k j.toNat 0):=.of_run fun X φ κ f a w h=>by
 have h1:=h.evs hx;have h2:=h.evc hy;have h3:=h.sl b _ hs;generalize f b=S at h3;generalize hp:a.eval x=p at h1
 cases h1 with
 | hd hκ _=>
  cases h3 with
  | r hκ' hv=>
   rw [hκ] at hκ';injection hκ' with hκ';subst hκ'
   cases hv with
   | ni=>simp at hj;omega
   | ne=>simp at hj;omega
   | om hre hh hle hm hsz' htk hS=>
    refine ⟨_,.ep hκ,fun w' _=>?_⟩;simp only [execOp,ho,hp,h2,Sem.run_bind,run_index hT hk he h0 hj w'];simp [go_sem,hsz]
end
def findX:List Sl->Nat->Option (Nat×Nat)
 | [],_=>none
 | ⟨u,.x⟩ :: _,n=>some (n,u)
 | _ :: l,n=>findX l (n + 1)
theorem findX_at:∀ {l:List Sl} {n j u:Nat},findX l n=some (j,u)->n<=j/\l[j - n]? = some ⟨u,.x⟩
 | [],_,_,_,h=>by simp [findX] at h
 | ⟨v,.x⟩ :: l,n,j,u,h=>by
  simp only [findX,Option.some.injEq,Prod.mk.injEq] at h;obtain ⟨rfl,rfl⟩:=h;simp
 | ⟨v,.c T c⟩ :: l,n,j,u,h=>by
  have:=findX_at (l:=l) (n:=n + 1) (by simpa [findX] using h);refine ⟨by omega,?_⟩;rw [show j - n=(j - (n + 1)) + 1 by omega];simpa using this.2
 | ⟨v,.r e k c⟩ :: l,n,j,u,h=>by
  have:=findX_at (l:=l) (n:=n + 1) (by simpa [findX] using h);refine ⟨by omega,?_⟩;rw [show j - n=(j - (n + 1)) + 1 by omega];simpa using this.2
 | ⟨v,.o⟩ :: l,n,j,u,h=>by
  have:=findX_at (l:=l) (n:=n + 1) (by simpa [findX] using h);refine ⟨by omega,?_⟩;rw [show j - n=(j - (n + 1)) + 1 by omega];simpa using this.2
 | ⟨v,.y J⟩ :: l,n,j,u,h=>by
  have:=findX_at (l:=l) (n:=n + 1) (by simpa [findX] using h);refine ⟨by omega,?_⟩;rw [show j - n=(j - (n + 1)) + 1 by omega];simpa using this.2
 | ⟨v,.f _ _ _ _ _⟩ :: l,n,j,u,h=>by
  have:=findX_at (l:=l) (n:=n + 1) (by simpa [findX] using h);refine ⟨by omega,?_⟩;rw [show j - n=(j - (n + 1)) + 1 by omega];simpa using this.2
 | ⟨v,.m _ _ _ _⟩ :: l,n,j,u,h=>by
  have:=findX_at (l:=l) (n:=n + 1) (by simpa [findX] using h);refine ⟨by omega,?_⟩;rw [show j - n=(j - (n + 1)) + 1 by omega];simpa using this.2
 | ⟨v,.w _ _⟩ :: l,n,j,u,h=>by
  have:=findX_at (l:=l) (n:=n + 1) (by simpa [findX] using h);refine ⟨by omega,?_⟩;rw [show j - n=(j - (n + 1)) + 1 by omega];simpa using this.2
def newS (b:List Sl) (B:Bx):(Nat×Nat)×List Sl:=
 match findX b 0 with
 | some (j,u)=>((j,u + 1),b.set j ⟨u + 1,B⟩)
 | none=>((b.length,1),b ++ [⟨1,B⟩])
def Fi.on (φ:Fi) (j u:Nat) (g:Option Nat):Fi:=fun i v=>if i=j/\v=u then g else φ i v
def Ka.on (κ:Ka) (j u:Nat) (g:Option Value):Ka:=fun i v=>if i=j/\v=u then g else κ i v
section
variable {X:Cx} {φ:Fi} {κ:Ka} {f:Nat->Ct} {L L' g:Ct} {s:AS} {a:Act} {w w':World}
theorem SatW.newAt (h:SatW X φ κ f L s a w) {j u:Nat} {B:Bx} (hj:s.b[j]? = some ⟨u,.x⟩) (gφ:Option Nat) (gκ:Option Value)
 (hsz:w.heap.size<=w'.heap.size) (hos:w'.os=w.os) (htp:w'.tape=w.tape) (hou:w'.output=w.output)
 (hblk:∀ x,x < w.heap.size->L x=0->w'.heap[x]? = w.heap[x]?)
 (hB:∀ φ' κ',(∀ b u g,φ b u=some g->φ' b u=some g)->(∀ b u v,κ b u=some v->κ' b u=some v)->φ' j (u + 1)=gφ->κ' j (u + 1)=gκ->RS w' φ' κ' X.R j (u + 1) B g)
 (hone:∀ x,x < w.heap.size->g x + L' x<=L x) (hnew:∀ x,w.heap.size<=x->g x + L' x<=1/\(g x + L' x≠0->x < w'.heap.size)) (hY:B.isY=false:=by rfl) :
 ∃ φ' κ' f',(∀ b u g,φ b u=some g->φ' b u=some g)/\(∀ b u v,κ b u=some v->κ' b u=some v)/\φ' j (u + 1)=gφ/\κ' j (u + 1)=gκ/\SatW X φ' κ' f' L' ⟨s.t,s.b.set j ⟨u + 1,B⟩⟩ a w':=by
 have hnone:=h.new j (u + 1) (fun e he=>by rw [hj] at he;injection he with he;subst he;simp)
 have hφ:∀ b v g,φ b v=some g->(φ.on j (u + 1) gφ) b v=some g:=fun b v g hg=>by
  unfold Fi.on
  by_cases hc:b=j/\v=u + 1
  ·rw [hc.1,hc.2,hnone.1] at hg;cases hg
  ·rw [if_neg hc];exact hg
 have hκ:∀ b v g,κ b v=some g->(κ.on j (u + 1) gκ) b v=some g:=fun b v g hg=>by
  unfold Ka.on
  by_cases hc:b=j/\v=u + 1
  ·rw [hc.1,hc.2,hnone.2] at hg;cases hg
  ·rw [if_neg hc];exact hg
 have e1:(φ.on j (u + 1) gφ) j (u + 1)=gφ:=by simp [Fi.on]
 have e2:(κ.on j (u + 1) gκ) j (u + 1)=gκ:=by simp [Ka.on]
 have hz:∀ x,f j x=0:=fun x=>by
  have:=h.sl j _ hj;generalize f j=S at this
  cases this;rfl
 refine ⟨φ.on j (u + 1) gφ,κ.on j (u + 1) gκ,updF f j g,hφ,hκ,e1,e2,?_⟩;refine h.turn hj hφ hκ hsz hos htp hou (fun x hx h0=>hblk x hx (by omega)) (hB _ _ hφ hκ e1 e2) (fun x hx=>by have:=hone x hx;omega) hnew (by simp) ?_ ?_ hY
 ·intro i v hv hn;unfold Fi.on;rw [if_neg (by omega)];exact hn
 ·intro i v hv hn;unfold Ka.on;rw [if_neg (by omega)];exact hn
theorem SatW.newS_ (h:SatW X φ κ f L s a w) {B:Bx} (gφ:Option Nat) (gκ:Option Value)
 (hsz:w.heap.size<=w'.heap.size) (hos:w'.os=w.os) (htp:w'.tape=w.tape) (hou:w'.output=w.output)
 (hblk:∀ x,x < w.heap.size->L x=0->w'.heap[x]? = w.heap[x]?)
 (hB:∀ φ' κ' j u,(∀ b u g,φ b u=some g->φ' b u=some g)->(∀ b u v,κ b u=some v->κ' b u=some v)->φ' j u=gφ->κ' j u=gκ->RS w' φ' κ' X.R j u B g)
 (hone:∀ x,x < w.heap.size->g x + L' x<=L x) (hnew:∀ x,w.heap.size<=x->g x + L' x<=1/\(g x + L' x≠0->x < w'.heap.size)) (hY:B.isY=false:=by rfl) :
 ∃ φ' κ' f',(∀ b u g,φ b u=some g->φ' b u=some g)/\(∀ b u v,κ b u=some v->κ' b u=some v)/\φ' (newS s.b B).1.1 (newS s.b B).1.2=gφ/\κ' (newS s.b B).1.1 (newS s.b B).1.2=gκ/\SatW X φ' κ' f' L' ⟨s.t,(newS s.b B).2⟩ a w':=by
 unfold newS
 cases hf:findX s.b 0 with
 | some p=>
  obtain ⟨j,u⟩:=p;have hj:=(findX_at hf).2;simp only [Nat.sub_zero] at hj;exact h.newAt hj gφ gκ hsz hos htp hou hblk (fun φ' κ' a b c d=>hB φ' κ' j (u + 1) a b c d) hone hnew hY
 | none=>
  have h':=h.slot;have hj:(s.b ++ [(⟨0,.x⟩:Sl)])[s.b.length]? = some ⟨0,.x⟩:=by simp
  obtain ⟨φ',κ',f',h1,h2,h3,h4,h5⟩:=h'.newAt (B:=B) (j:=s.b.length) (u:=0) hj gφ gκ hsz hos htp hou hblk (fun φ' κ' a b c d=>hB φ' κ' s.b.length 1 a b c d) hone hnew hY;refine ⟨φ',κ',f',h1,h2,h3,h4,?_⟩
  have e:(s.b ++ [(⟨0,.x⟩:Sl)]).set s.b.length ⟨0 + 1,B⟩=s.b ++ [⟨1,B⟩]:=by
   rw [List.set_append_right _ _ (Nat.le_refl _)];simp
  simp only [e] at h5;exact h5
def AV.cells:AV->List AV
 | .ag l=>l
 | a=>[a]
def AV.known:AV->Bool
 | .ag _ | .sc _ | .sl _ _ _ | .bp _ _ _ | .hd _ _ | .ep _ _ _ _ _ | .rp _ _ _ _ | .vp _ _ _ | .pz _ | .fn _ _ | .sb _ _ _ _ _ _=>true
 | _=>false
theorem RV.cells_ {R:Nat->Prop} {a:AV} {v:Value} (h:RV w φ κ R a v Ct.z) (hk:a.known=true):RC w φ κ R a.cells v.cells.toList Ct.z/\∀ u∈v.cells.toList,u.oneCell'=true:=by
 have one:∀ {a:AV} {v:Value},RV w φ κ R a v Ct.z->v.oneCell'=true->v.cells.toList=[v]->a.cells=[a]->RC w φ κ R a.cells v.cells.toList Ct.z/\∀ u∈v.cells.toList,u.oneCell'=true:=by
  intro a v h h1 h2 h3;rw [h2,h3];exact ⟨.cons (S:=Ct.z) (T:=Ct.z) h .nil fun _=>rfl,fun u hu=>by simp at hu;subst hu;exact h1⟩
 generalize hz:Ct.z=S at h
 cases h with
 | @sc v h1=>exact one (.sc h1) h1 (by cases v<;>first|rfl|simp [Value.oneCell'] at h1) rfl
 | bp h1=>exact one (.bp h1) rfl rfl rfl
 | ni=>exact one .ni rfl rfl rfl
 | ne=>exact one .ne rfl rfl rfl
 | ro a b c d e=>exact one (.ro a b c d e) rfl rfl rfl
 | om a b c d e f h=>subst hz;exact one (.om a b c d e f h) rfl rfl rfl
 | @hd _ _ v h1 h2=>exact one (.hd h1 h2) h2 (by cases v<;>first|rfl|simp [Value.oneCell'] at h2) rfl
 | ep h1=>exact one (.ep h1) rfl rfl rfl
 | rp h1 h2 h3=>exact one (.rp h1 h2 h3) rfl rfl rfl
 | vp h1 h2 h3=>exact one (.vp h1 h2 h3) rfl rfl rfl
 | pz h1 h2 a b=>exact one (.pz h1 h2 a b) rfl rfl rfl
 | ag h1 h2=>subst hz;exact ⟨by simpa [AV.cells,Value.cells] using h1,by simpa [Value.cells] using h2⟩
 | tu h1=>cases hk
 | de=>cases hk
 | gt h1=>cases hk
 | gf=>cases hk
 | fs h1 h2=>cases hk
 | hf h1=>cases hk
 | sb h1 h2 h3=>exact one (.sb h1 h2 h3) rfl rfl rfl
 | fn h1=>subst hz;exact one (.fn h1) (fnV_one ..) (fnV_cells ..) rfl
 | ob=>cases hk
 | mo=>cases hk
variable {P:Program} {ops:Array Oper} {rest:List Oper} {o:Oper} {av:AV} {Q:Exit->AS->Prop}
theorem AP.run (hg:o.guard=none) {s':AS} (h:∀ X φ κ f a w,SatW X φ κ f Ct.z s a w->∃ v w' φ' κ' f',(execOp a.eval o).run P w=.ok (.value v) w'/\SatW X φ' κ' f' Ct.z s' (a.put o.dst v) w')
 (K:AP P X ops Q rest s'):AP P X ops Q (o :: rest) s:=by
 rintro a w ⟨X',φ,κ,f,hX,hs⟩;obtain ⟨v,w',φ',κ',f',hr,hs'⟩:=h X' φ κ f a w hs;exact wpL_plain hg fun K' hK'=>wpO_val hr (hK' _ _ (K _ _ ⟨X',φ',κ',f',hX,hs'⟩))
theorem AP.runG (hg:o.guard=none) {s':AS} (h:∀ X φ κ f a w,SatW X φ κ f Ct.z s a w->∃ X1 v w' φ' κ' f',X.le X1/\(execOp a.eval o).run P w=.ok (.value v) w'/\SatW X1 φ' κ' f' Ct.z s' (a.put o.dst v) w')
 (K:AP P X ops Q rest s'):AP P X ops Q (o :: rest) s:=by
 rintro a w ⟨X',φ,κ,f,hX,hs⟩;obtain ⟨X1,v,w',φ',κ',f',hX1,hr,hs'⟩:=h X' φ κ f a w hs;exact wpL_plain hg fun K' hK'=>wpO_val hr (hK' _ _ (K _ _ ⟨X1,φ',κ',f',hX.trans hX1,hs'⟩))
theorem AP.runU (hg:o.guard=none) {s':AS} (h:∀ X φ κ f a w,SatW X φ κ f Ct.z s a w->∃ w' φ' κ' f',(execOp a.eval o).run P w=.ok .skip w'/\SatW X φ' κ' f' Ct.z s' (a.put o.dst undef) w')
 (K:AP P X ops Q rest s'):AP P X ops Q (o :: rest) s:=by
 rintro a w ⟨X',φ,κ,f,hX,hs⟩;obtain ⟨w',φ',κ',f',hr,hs'⟩:=h X' φ κ f a w hs;exact wpL_plain hg fun K' hK'=>wpO_skip hr (hK' _ _ (K _ _ ⟨X',φ',κ',f',hX,hs'⟩))
theorem run_newVar (T:TypeId) (v:Value) (w:World):(newVar T v).run P w=.ok ⟨w.heap.size,0,none⟩ (w.alloc (.cells v.cells T)):=by
 rfl
theorem RS.made {R:Nat->Prop} {j u:Nat} {T:TypeId} {l:List AV} {vs:List Value} (hr:RC w φ κ R l vs Ct.z) (h1:∀ v∈vs,v.oneCell'=true) (hR:∀ x,R x->x < w.heap.size) (φ':Fi) (κ':Ka)
 (hφ:∀ b u g,φ b u=some g->φ' b u=some g) (hκ:∀ b u v,κ b u=some v->κ' b u=some v) (hj:φ' j u=some w.heap.size) :
 RS (w.alloc (.cells vs.toArray T)) φ' κ' R j u (.c T l) (fun x=>if x=w.heap.size then 1 else 0):=
 .c hj (heap_alloc_new w _) (RC.hist hφ hκ (fun _ h=>h) (RC.keep (fun x hx=>Below.heap_alloc w _ x (hR x hx)) hr fun x hx=>absurd rfl hx)) h1 fun _=>rfl
theorem SatW.make (h:SatW X φ κ f Ct.z s a w) (T:TypeId) {l:List AV} {vs:List Value} (hr:RC w φ κ X.R l vs Ct.z) (h1:∀ v∈vs,v.oneCell'=true) (d:Option Nat) :
 ∃ φ' κ' f',SatW X φ' κ' f' Ct.z (AS.put ⟨s.t,(newS s.b (.c T l)).2⟩ d (.bp (newS s.b (.c T l)).1.1 (newS s.b (.c T l)).1.2 0)) (a.put d (.pointer (some ⟨w.heap.size,0,none⟩))) (w.alloc (.cells vs.toArray T)):=by
 obtain ⟨φ',κ',f',h2,h3,h4,h5,h6⟩:=h.newS_ (w':=w.alloc (.cells vs.toArray T)) (B:=.c T l) (L':=Ct.z) (g:=fun x=>if x=w.heap.size then 1 else 0) (some w.heap.size) none (by simp) rfl rfl rfl
  (fun x hx _=>Below.heap_alloc w _ x hx) (fun φ' κ' j u a b c d=>RS.made hr h1 (fun x hx=>h.blk (.inl hx)) φ' κ' a b c)
  (fun x hx=>by simp [Ct.z];omega) (fun x hx=>by simp only [Ct.z];split<;>simp_all)
 exact ⟨φ',κ',f',h6.puts d (.bp h4)⟩
theorem ap_box {T:TypeId} {x:Operand} (hg:o.guard=none) (ho:o.op=.box T x) (hx:aev s x=av) (hk:av.known=true)
 (K:AP P X ops Q rest (AS.put ⟨s.t,(newS s.b (.c T av.cells)).2⟩ o.dst (.bp (newS s.b (.c T av.cells)).1.1 (newS s.b (.c T av.cells)).1.2 0))):AP P X ops Q (o :: rest) s:=
 .run hg (fun X φ κ f a w h=>by
  obtain ⟨hr,h1⟩:=(h.evs hx).cells_ hk;obtain ⟨φ',κ',f',hs⟩:=h.make T hr h1 o.dst
  have hrun:(execOp a.eval o).run P w=.ok (.value (.pointer (some ⟨w.heap.size,0,none⟩))) (w.alloc (.cells (a.eval x).cells T)):=by
   simp only [execOp,ho,Instr.box,Sem.run_bind,run_newVar];rfl
  exact ⟨_,_,φ',κ',f',hrun,by simpa only [Array.toArray_toList] using hs⟩) K
theorem ap_alloc {T:TypeId} {i:TI} {z:List ZC} (hg:o.guard=none) (ho:o.op=.alloc T) (hT:tt[T]? = some i) (hz:i.zero=some z)
 (K:AP prog X ops Q rest (AS.put ⟨s.t,(newS s.b (.c T (z.map fun c=>.sc c.val))).2⟩ o.dst (.bp (newS s.b (.c T (z.map fun c=>.sc c.val))).1.1 (newS s.b (.c T (z.map fun c=>.sc c.val))).1.2 0))):AP prog X ops Q (o :: rest) s:=
 .run hg (fun X φ κ f a w h=>by
  obtain ⟨d,j,hd,hj,_,_,_,hzz⟩:=TI.parts (ty hT);obtain ⟨v,hv,hvc,_⟩:=hzz z hz;have one:∀ c:ZC,c.val.oneCell'=true:=fun c=>by cases c<;>rfl
  have hr:RC w φ κ X.R (z.map fun c=>.sc c.val) (z.map ZC.val) Ct.z:=RC.of_at (by simp) fun i av hi=>by
   simp only [List.getElem?_map,Option.map_eq_some_iff] at hi ⊢;obtain ⟨c,hc,rfl⟩:=hi;exact ⟨_,⟨c,hc,rfl⟩,.sc (one c)⟩
  obtain ⟨φ',κ',f',hs⟩:=h.make T hr (fun v hv=>by simp only [List.mem_map] at hv;obtain ⟨c,_,rfl⟩:=hv;exact one c) o.dst;have e:v.cells=(z.map ZC.val).toArray:=by rw [←hvc]
  have hzv:(zeroValue T).run prog w=.ok v w:=by simp [zeroValue,typeInfo,hj,hv,go_sem]
  have hrun:(execOp a.eval o).run prog w=.ok (.value (.pointer (some ⟨w.heap.size,0,none⟩))) (w.alloc (.cells (z.map ZC.val).toArray T)):=by
   simp only [execOp,ho,Instr.alloc,Sem.run_bind,hzv,Result.andThen_ok,run_newVar,e];rfl
  exact ⟨_,_,φ',κ',f',hrun,hs⟩) K
def spl {α:Type}:List α->Nat->List α->List α
 | l,_,[]=>l
 | l,o,a :: r=>spl (l.set o a) (o + 1) r
theorem spl_length {α:Type}:∀ (r:List α) (l:List α) (o:Nat),(spl l o r).length=l.length
 | [],_,_=>rfl
 | a :: r,l,o=>by simp [spl,spl_length r]
theorem RC.spl_ {R:Nat->Prop}:∀ {r:List AV} {us:List Value} {l:List AV} {vs:List Value} {o:Nat},RC w φ κ R l vs Ct.z->RC w φ κ R r us Ct.z->RC w φ κ R (spl l o r) (spl vs o us) Ct.z
 | [],us,l,vs,o,h,hr=>by cases us with
  | nil=>exact h
  | cons _ _=>have:=hr.length;simp at this
 | a :: r,us,l,vs,o,h,hr=>by cases us with
  | nil=>have:=hr.length;simp at this
  | cons u us=>
   have h0:=hr.at_ (i:=0) (a:=a) rfl;obtain ⟨v,hv,hrv⟩:=h0;simp at hv;subst hv
   have hr':RC w φ κ R r us Ct.z:=RC.of_at (by simpa using hr.length) fun i b hb=>by simpa using hr.at_ (i:=i + 1) (a:=b) (by simpa using hb)
   exact RC.spl_ (l:=l.set o a) (vs:=vs.set o u) (h.set_ hrv) hr'
theorem spl_one:∀ {us:List Value} {vs:List Value} {o:Nat},(∀ v∈vs,v.oneCell'=true)->(∀ v∈us,v.oneCell'=true)->∀ v∈spl vs o us,v.oneCell'=true
 | [],vs,o,h,_=>h
 | u :: us,vs,o,h,h'=>spl_one (vs:=vs.set o u) (fun v hv=>(List.mem_or_eq_of_mem_set hv).elim (h v) (fun e=>e ▸ h' u (by simp))) fun v hv=>h' v (by simp [hv])
theorem heap_setCells (b:Nat) (T:TypeId):∀ (us vs:List Value) (o:Nat) (w:World),w.heap[b]? = some (.cells vs.toArray T (0,0))->(w.setCells b o us).heap[b]? = some (.cells (spl vs o us).toArray T (0,0))
 | [],vs,o,w,h=>h
 | u :: us,vs,o,w,h=>by
  refine heap_setCells b T us (vs.set o u) (o + 1) (w.setCell ⟨b,o,none⟩ u) ?_;simp [World.setCell,Array.getElem?_modify,h]
theorem size_setCells (b:Nat):∀ (us:List Value) (o:Nat) (w:World),(w.setCells b o us).heap.size=w.heap.size
 | [],_,_=>rfl
 | u :: us,o,w=>by rw [World.setCells,size_setCells b us];simp [World.setCell]
theorem heap_setCells_ne (b:Nat):∀ (us:List Value) (o:Nat) (w:World) (x:Nat),x≠b->(w.setCells b o us).heap[x]? = w.heap[x]?
 | [],_,_,_,_=>rfl
 | u :: us,o,w,x,h=>by rw [World.setCells,heap_setCells_ne b us _ _ x h];exact Below.heap_setCell w _ u x h
theorem os_setCells' (b:Nat):∀ (us:List Value) (o:Nat) (w:World),(w.setCells b o us).os=w.os
 | [],_,_=>rfl
 | u :: us,o,w=>by rw [World.setCells,os_setCells' b us];rfl
theorem out_setCells (b:Nat):∀ (us:List Value) (o:Nat) (w:World),(w.setCells b o us).output=w.output
 | [],_,_=>rfl
 | u :: us,o,w=>by rw [World.setCells,out_setCells b us];rfl
theorem tape_setCells (b:Nat):∀ (us:List Value) (o:Nat) (w:World),(w.setCells b o us).tape=w.tape
 | [],_,_=>rfl
 | u :: us,o,w=>by rw [World.setCells,tape_setCells b us];rfl
theorem run_storeAny {T:TypeId} {v:Value} {b off n:Nat} (w:World) (hi:(P.info? T).map (·.size)=some n) (hn:v.cells.size=n) (h1:∀ u∈v.cells.toList,u.oneCell'=true) (hth:w.there b off n) :
 (Instr.storeAt T (.pointer (some ⟨b,off,none⟩)) v).run P w=.ok () (w.setCells b off v.cells.toList):=by
 subst hn
 have hs:(sizeOf T).run P w=.ok v.cells.size w:=by
  cases hq:P.info? T with
  | none=>simp [hq] at hi
  | some j=>simp [hq] at hi;simp [sizeOf,typeInfo,hq,hi,go_sem]
 have:=run_storeCells_cells (P:=P) b off v.cells.toList 0 w (fun j hj=>by simpa using (hth j (by simpa using hj)).1) (fun j hj=>by simpa using (hth j (by simpa using hj)).2) h1;simp only [Nat.add_zero] at this;simp only [Instr.storeAt,Instr.sureAddr,Sem.run_bind,Sem.run_pure,Result.andThen_ok,storeVar,hs,ne_eq,not_true_eq_false,if_false];exact this
theorem ap_store {T T':TypeId} {x y:Operand} {b u off:Nat} {l:List AV} {i:TI} (hg:o.guard=none) (ho:o.op=.store T x y) (hx:aev s x=.bp b u off) (hs:s.b[b]? = some ⟨u,.c T' l⟩) (hy:aev s y=av) (hk:av.known=true)
 (hT:tt[T]? = some i) (hn:av.cells.length=i.size) (hl:Nat.ble (off + i.size) l.length=true)
 (K:AP prog X ops Q rest (AS.put ⟨s.t,s.b.set b ⟨u,.c T' (spl l off av.cells)⟩⟩ o.dst (.tu []))):AP prog X ops Q (o :: rest) s:=
 .runU hg (fun X φ κ f a w h=>by
  have hl:=Nat.le_of_ble_eq_true hl;obtain ⟨hr,h1⟩:=(h.evs hy).cells_ hk;obtain ⟨g,vs,he,hh,hc,hv1⟩:=h.cells (Below.refl _ _) hx hs;obtain ⟨d,j,hd,hj,_,hsz,_⟩:=TI.parts (ty hT);have hlen:=hr.length;have hvl:=hc.length;have hS:=h.sl b _ hs;have hbp:=h.evs hx;rw [he] at hbp;have hφ:φ b u=some g:=by cases hbp with|bp h=>exact h
  have hth:w.there g off i.size:=fun j hj=>by
   refine ⟨?_,by simp [World.frozen?,hh]⟩;rw [cell_of_row w g (off + j) vs.toArray T' (0,0) hh];simp;omega
  have hrun:=run_storeAny (P:=prog) (T:=T) (b:=g) (off:=off) w (n:=i.size) (by rw [hj];simp [hsz]) (by rw [←hn,←hlen];simp) h1 hth;have hb:b < s.b.length:=(List.getElem?_eq_some_iff.1 hs).1
  have hf:∀ x,f b x=if x=g then 1 else 0:=by
   generalize f b=F at hS
   cases hS with
   | c hφ' _ _ _ hSx=>rw [hφ] at hφ';injection hφ' with e;subst e;exact hSx
  have hgl:g < w.heap.size:=(Array.getElem?_eq_some_iff.1 hh).1
  have hrun':(execOp a.eval o).run prog w=.ok .skip (w.setCells g off (a.eval y).cells.toList):=by
   simp only [execOp,ho,he,Sem.run_bind,hrun];rfl
  refine ⟨_,φ,κ,updF f b (fun x=>if x=g then 1 else 0),hrun',SatW.puts ?_ o.dst (RV.tu RC.nil)⟩;refine h.turn (w':=w.setCells g off (a.eval y).cells.toList) hs (fun _ _ _ h=>h) (fun _ _ _ h=>h) (by rw [size_setCells];exact Nat.le_refl _) (os_setCells' g _ off w) (tape_setCells g _ off w) (out_setCells g _ off w) ?_ ?_ (g:=fun x=>if x=g then 1 else 0) (L':=Ct.z) ?_ ?_ (Nat.le_refl _) (fun _ _ _ h=>h) (fun _ _ _ h=>h)
  ·intro x hx h0;have:=hf x;have hne:x≠g:=by rintro rfl;simp at this;omega
   exact heap_setCells_ne g _ off w x hne
  ·have hR:∀ x,X.R x->(w.setCells g off (a.eval y).cells.toList).heap[x]? = w.heap[x]?:=fun x hx=>by
    have h3:=h.not_rd hx;have h4:=sumF_le f x _ b hb;have h5:=hf x;have hne:x≠g:=by rintro rfl;simp at h5;omega
    exact heap_setCells_ne g _ off w x hne
   exact .c hφ (heap_setCells g T' _ vs off w hh) (RC.keep hR (hc.spl_ hr) fun x hx=>absurd rfl hx) (spl_one hv1 h1) fun _=>rfl
  ·intro x hx;have:=hf x;simp only [Ct.z];omega
  ·intro x hx;simp only [Ct.z];split
   ·omega
   ·simp) K
end
section
variable {X:Cx} {φ φ':Fi} {κ κ':Ka} {f:Nat->Ct} {L L':Ct} {s:AS} {a:Act} {w w':World}
theorem SatW.retm (h:SatW X φ κ f L s a w) {t:List AV} {a':Act} (ht:RC w φ κ X.R t a'.tmps.toList Ct.z) (hd:a'.defers=a.defers):SatW X φ κ f L ⟨t,s.b⟩ a' w:=
 { tm:=ht,df:=hd ▸ h.df,sl:=h.sl,one:=h.one,own:=h.own,rd:=h.rd,fr:=h.fr,bas:=h.bas,new:=h.new }
theorem SatW.lim (h:SatW X φ κ f L s a w) (e:∀ x,L x=L' x):SatW X φ κ f L' s a w:=(funext e:L=L') ▸ h
theorem SatW.take (h:SatW X φ κ f L s a w) {j u:Nat} {B:Bx} (hj:s.b[j]? = some ⟨u,B⟩) (B':Bx) (hB:∀ φ κ,RS w φ κ X.R j u B' Ct.z) (hY:B'.isY=false:=by rfl) :
 RS w φ κ X.R j u B (f j)/\SatW X φ κ (updF f j Ct.z) (fun x=>f j x + L x) ⟨s.t,s.b.set j ⟨u,B'⟩⟩ a w:=by
 refine ⟨h.sl j _ hj,h.turn (w':=w) hj (fun _ _ _ h=>h) (fun _ _ _ h=>h) (Nat.le_refl _) rfl rfl rfl (fun _ _ _=>rfl) (hB _ _) (fun x _=>by simp [Ct.z]) (fun x hx=>?_) (Nat.le_refl _) (fun _ _ _ h=>h) (fun _ _ _ h=>h) hY⟩;have hjl:j < s.b.length:=(List.getElem?_eq_some_iff.1 hj).1;have h1:=sumF_le f x _ j hjl;have h2:=h.own x;have h3:=h.one x;simp only [Ct.z];exact ⟨by omega,fun h0=>by have:=h2 (by omega);exact this.1⟩
theorem SatW.frz (h:SatW X φ κ f L s a w) {j u:Nat} {e:TypeId} {k:Nat} {rows:List (List AV)} (hj:s.b[j]? = some ⟨u,.r e k rows⟩) :
 ∃ X' v,X.le X'/\κ j u=some v/\RV w φ κ X'.R (.sl none k (roE rows)) v Ct.z/\SatW X' φ κ (updF f j Ct.z) L ⟨s.t,s.b.set j ⟨u,.x⟩⟩ a w:=by
 obtain ⟨hrs,ht⟩:=h.take hj .x fun _ _=>.x
 generalize hF:f j=F at hrs ht
 cases hrs with
 | r hκ hv=>
  have hgr:∀ x,F x≠0->x < w.heap.size/\(X.S0 x≠0\/X.w0.heap.size<=x)/\sumF (updF f j Ct.z) (s.b.set j ⟨u,.x⟩).length x + L x=0:=fun x hx=>by
   have h1:=ht.own x (by dsimp only;omega);have h2:=ht.one x;dsimp only at h2;exact ⟨h1.1,h1.2,by omega⟩
  refine ⟨X.gr (fun x=>X.R x\/F x≠0),_,Cx.le_gr (fun x hx=>.inl hx) (fun x hx=>hx.imp id fun h0=>(hgr x h0).2.1),hκ,RV.ro_ hv,?_⟩;refine SatW.grow (ht.drop fun x=>by (try dsimp only);omega) (fun x hx=>.inl hx) (fun x hx=>?_) (fun x hx=>hx.imp id fun h0=>(hgr x h0).2.1);rcases hx with hx|hx
  ·have:=ht.rd x hx;dsimp only at this ⊢;exact ⟨this.1,by omega⟩
  ·exact ⟨(hgr x hx).1,(hgr x hx).2.2⟩
variable {R:Nat->Prop}
theorem RE.part {k:Nat}:∀ {s:List (List AV)} {us:List Value} {S:Ct} {n:Nat} {c:List AV},RE w φ κ R k s us S->s[n]? = some c ->
 ∃ us1 cs us2 S1 Sc S2,RE w φ κ R k (s.take n) us1 S1/\RC w φ κ R c cs Sc/\cs.length=k/\(∀ u∈cs,u.oneCell'=true)/\(∀ x∈c,x.leaf=true)/\RE w φ κ R k (s.drop (n + 1)) us2 S2/\us=us1 ++ cs ++ us2/\∀ x,S x=S1 x + Sc x + S2 x
 | [],_,_,_,_,_,h=>by simp at h
 | r :: s,_,_,0,c,h,hn=>by
  simp at hn;subst hn
  cases h with
  | cons h1 h2 h3 h4 h5=>exact ⟨[],_,_,Ct.z,_,_,.nil,h1,h2,h3.1,h3.2,h4,rfl,fun x=>by rw [h5];simp [Ct.z]⟩
 | r :: s,_,_,n + 1,c,h,hn=>by
  cases h with
  | cons h1 h2 h3 h4 h5=>
   obtain ⟨us1,cs,us2,S1,Sc,S2,e1,e2,e3,e4,e5,e6,rfl,e8⟩:=RE.part h4 (n:=n) (c:=c) (by simpa using hn);exact ⟨_,cs,us2,_,Sc,S2,.cons h1 h2 h3 e1 (fun _=>rfl),e2,e3,e4,e5,by simpa using e6,by simp,fun x=>by rw [h5,e8];omega⟩
theorem RE.join {k n:Nat} {s:List (List AV)} {us1 cs us2:List Value} {S1 Sc S2 S:Ct} {c:List AV} (hn:n < s.length) (h1:RE w φ κ R k (s.take n) us1 S1) (h2:RC w φ κ R c cs Sc) (h3:cs.length=k) (h4:∀ u∈cs,u.oneCell'=true) (h5:∀ x∈c,x.leaf=true) (h6:RE w φ κ R k (s.drop (n + 1)) us2 S2) (hS:∀ x,S x=S1 x + Sc x + S2 x):RE w φ κ R k (s.set n c) (us1 ++ cs ++ us2) S:=by
 rw [List.set_eq_take_append_cons_drop,if_pos hn,List.append_assoc];exact h1.append (.cons h2 h3 ⟨h4,h5⟩ h6 fun _=>rfl) fun x=>by rw [hS];omega
inductive ClsC:List Sl->List AV->List AV->List Sl->Prop
 | nil {b}:ClsC b [] [] b
 | hd {b i u e k s l l' b'}:b[i]? = some ⟨u,.r e k s⟩->ClsC (b.set i ⟨u,.x⟩) l l' b'->ClsC b (.hd i u :: l) (.sl (some e) k s :: l') b'
 | nl {b o k l l' b'}:ClsC b l l' b'->ClsC b (.sc (.slice none 0 0) :: l) (.sl o k [] :: l') b'
 | leaf {b a l l' b'}:a.leaf=true->ClsC b l l' b'->ClsC b (a :: l) (a :: l') b'
 | fn {b f l l' b'}:ClsC b l l' b'->ClsC b (.fn f [] :: l) (.sc (.func (.func f) #[] #[]) :: l') b'
 | fz {b i u e k s s' l l' b'}:b[i]? = some ⟨u,.r e k s⟩->roE s=s'->ClsC (b.set i ⟨u,.x⟩) l l' b'->ClsC b (.hd i u :: l) (.sl none k s' :: l') b'
 | ob {b i u T c c' b1 l l' b'}:b[i]? = some ⟨u,.c T c⟩->ClsC (b.set i ⟨u,.x⟩) c c' b1->ClsC b1 l l' b'->ClsC b (.bp i u 0 :: l) (.ob T c' :: l') b'
 | mo {b i u ks s st l l' b'}:b[i]? = some ⟨u,.m ks s none st⟩->ClsC (b.set i ⟨u,.x⟩) l l' b'->ClsC b (.hd i u :: l) (.mo ks s :: l') b'
 | mp {b i u ks s n c c' b1 st l l' b'}:b[i]? = some ⟨u,.m ks s (some (n,c)) st⟩->ClsC (b.set i ⟨u,.x⟩) c c' b1->ClsC b1 l l' b'->ClsC b (.hd i u :: l) (.mo ks (s.set n c') :: l') b'
 | hp {b i u e k s n c c' b1 l l' b'}:b[i]? = some ⟨u,.f e k s n c⟩->ClsC (b.set i ⟨u,.x⟩) c c' b1->ClsC b1 l l' b'->ClsC b (.hd i u :: l) (.sl (some e) k (s.set n c') :: l') b'
theorem RV.nil_sl {R:Nat->Prop} {v:Value} {S:Ct} {o:Option TypeId} {k:Nat} (h:RV w φ κ R (.sc (.slice none 0 0)) v S):RV w φ κ R (.sl o k []) v S:=by cases h;exact .ni
theorem SatW.cls {b:List Sl} {l l':List AV} {b':List Sl} (hc:ClsC b l l' b'):∀ {f:Nat->Ct} {L:Ct} {t:List AV} {vs:List Value},SatW X φ κ f L ⟨t,b⟩ a w->RC w φ κ X.R l vs Ct.z ->
 ∃ X' S f',X.le X'/\RC w φ κ X'.R l' vs S/\(∀ x∈l',x.leaf=true)/\SatW X' φ κ f' (fun x=>S x + L x) ⟨t,b'⟩ a w:=by
 induction hc generalizing X with
 | nil=>exact fun h hr=>⟨X,Ct.z,_,.rfl,hr,(fun _ h=>by cases h),h.lim fun x=>by simp [Ct.z]⟩
 | @hd b i u e k s l l' b' hi _ ih=>
  intro f L t vs h hr
  cases hr with
  | cons h1 h2 h3=>
   obtain ⟨rfl,rfl⟩:=Ct.split h3;obtain ⟨hrs,ht⟩:=h.take hi .x fun _ _=>.x
   obtain ⟨X1,S,f',hX,h4,h4',h5⟩:=ih ht h2
   cases hrs with
   | r hκ hv=>
    cases h1 with
    | hd hκ' _=>
     rw [hκ] at hκ';injection hκ' with e;subst e
     exact ⟨X1,fun x=>f i x + S x,f',hX,.cons (RV.hist (fun _ _ _ h=>h) (fun _ _ _ h=>h) hX.up hv) h4 fun _=>rfl,(fun x hx=>by rcases List.mem_cons.1 hx with rfl|hx;rfl;exact h4' x hx),h5.lim fun x=>by (try dsimp only);omega⟩
 | nl _ ih=>
  intro f L t vs h hr
  cases hr with
  | cons h1 h2 h3=>
   obtain ⟨rfl,rfl⟩:=Ct.split h3;obtain ⟨X1,S,f',hX,h4,h4',h5⟩:=ih h h2;exact ⟨X1,S,f',hX,.cons (RV.nil_sl (RV.hist (fun _ _ _ h=>h) (fun _ _ _ h=>h) hX.up h1)) h4 fun x=>by simp [Ct.z],(fun x hx=>by rcases List.mem_cons.1 hx with rfl|hx;rfl;exact h4' x hx),h5⟩
 | leaf hl _ ih=>
  intro f L t vs h hr
  cases hr with
  | cons h1 h2 h3=>
   obtain ⟨rfl,rfl⟩:=Ct.split h3;obtain ⟨X1,S,f',hX,h4,h4',h5⟩:=ih h h2;exact ⟨X1,S,f',hX,.cons (RV.hist (fun _ _ _ h=>h) (fun _ _ _ h=>h) hX.up h1) h4 fun x=>by simp [Ct.z],(fun x hx=>by rcases List.mem_cons.1 hx with rfl|hx;exact hl;exact h4' x hx),h5⟩
 | fn _ ih=>
  intro f L t vs h hr
  cases hr with
  | cons h1 h2 h3=>
   obtain ⟨rfl,rfl⟩:=Ct.split h3;obtain ⟨X1,S,f',hX,h4,h4',h5⟩:=ih h h2;exact ⟨X1,S,f',hX,.cons (T:=S) (S:=Ct.z) (by cases h1 with|fn hc=>cases hc;exact .sc rfl) h4 fun x=>by simp [Ct.z],(fun x hx=>by rcases List.mem_cons.1 hx with rfl|hx;rfl;exact h4' x hx),h5⟩
 | fz hi hs _ ih=>
  intro f L t vs h hr
  cases hr with
  | cons h1 h2 h3=>
   obtain ⟨rfl,rfl⟩:=Ct.split h3;subst hs;obtain ⟨X0,v0,hX0,hκ,hv0,ht⟩:=h.frz hi;obtain ⟨X1,S,f',hX,h4,h4',h5⟩:=ih ht (RC.hist (fun _ _ _ h=>h) (fun _ _ _ h=>h) hX0.up h2)
   cases h1 with
   | hd hκ' _=>
    rw [hκ] at hκ';injection hκ' with e;subst e
    exact ⟨X1,S,f',hX0.trans hX,.cons (S:=Ct.z) (T:=S) (RV.hist (fun _ _ _ h=>h) (fun _ _ _ h=>h) hX.up hv0) h4 fun x=>by simp [Ct.z],(fun x hx=>by rcases List.mem_cons.1 hx with rfl|hx;rfl;exact h4' x hx),h5⟩
 | @ob b i u T c c' b1 l l' b' hi _ _ ih1 ih2=>
  intro f L t vs h hr
  cases hr with
  | cons h1 h2 h3=>
   obtain ⟨rfl,rfl⟩:=Ct.split h3;obtain ⟨hrs,ht⟩:=h.take hi .x fun _ _=>.x
   cases hrs with
   | @c _ _ us g _ hφ hh hc ho hS=>
    obtain ⟨X1,S1,f1,hX1,h4,h4',h5⟩:=ih1 ht hc;obtain ⟨X2,S2,f2,hX2,h6,h6',h7⟩:=ih2 h5 (RC.hist (fun _ _ _ h=>h) (fun _ _ _ h=>h) hX1.up h2)
    cases h1 with
    | bp hφ'=>
     rw [hφ] at hφ';injection hφ' with e;subst e
     exact ⟨X2,fun x=>((if x=g then 1 else 0) + S1 x) + S2 x,f2,hX1.trans hX2,.cons (.ob (RC.hist (fun _ _ _ h=>h) (fun _ _ _ h=>h) hX2.up h4) h4' hh ho fun _=>rfl) h6 fun _=>rfl,(fun x hx=>by rcases List.mem_cons.1 hx with rfl|hx;rfl;exact h6' x hx),h7.lim fun x=>by (try dsimp only);rw [hS x];omega⟩
 | @mo b i u ks s st l l' b' hi _ ih=>
  intro f L t vs h hr
  cases hr with
  | cons h1 h2 h3=>
   obtain ⟨rfl,rfl⟩:=Ct.split h3;obtain ⟨hrs,ht⟩:=h.take hi .x fun _ _=>.x
   obtain ⟨X1,S,f',hX,h4,h4',h5⟩:=ih ht h2
   cases hrs with
   | m hκ hro hh hm hst hS=>
    cases hro with
    | no he=>
     cases h1 with
     | hd hκ' _=>
      rw [hκ] at hκ';injection hκ' with e;subst e
      exact ⟨X1,fun x=>f i x + S x,f',hX,.cons (.mo (RE.hist (fun _ _ _ h=>h) (fun _ _ _ h=>h) hX.up he) hh hm hS) h4 fun _=>rfl,(fun x hx=>by rcases List.mem_cons.1 hx with rfl|hx;rfl;exact h4' x hx),h5.lim fun x=>by (try dsimp only);omega⟩
 | @mp b i u ks s n c c' b1 st l l' b' hi _ _ ih1 ih2=>
  intro f L t vs h hr
  cases hr with
  | cons h1 h2 h3=>
   obtain ⟨rfl,rfl⟩:=Ct.split h3;obtain ⟨hrs,ht⟩:=h.take hi .x fun _ _=>.x
   generalize hF:f i=F at hrs ht
   cases hrs with
   | @m _ _ _ _ g es clock us S' _ hκ hro hh hm hst hS=>
    cases hro with
    | yes hn e1 e2 e3 e4 e6 e7 e8=>
     obtain ⟨X1,Sc,f1,hX1,h4,h4',h5⟩:=ih1 ht e2;obtain ⟨X2,S2',f2,hX2,h6,h6',h7⟩:=ih2 h5 (RC.hist (fun _ _ _ h=>h) (fun _ _ _ h=>h) hX1.up h2)
     cases h1 with
     | hd hκ' _=>
      rw [hκ] at hκ';injection hκ' with e;subst e
      have hup:∀ x,X.R x->X2.R x:=fun x hx=>hX2.up _ (hX1.up _ hx)
      have hj:=RE.join hn (RE.hist (fun _ _ _ h=>h) (fun _ _ _ h=>h) hup e1) (RC.hist (fun _ _ _ h=>h) (fun _ _ _ h=>h) hX2.up h4) e3 e4 h4' (RE.hist (fun _ _ _ h=>h) (fun _ _ _ h=>h) hup e6) fun _=>rfl
      rw [←e7] at hj;exact ⟨X2,_,f2,hX1.trans hX2,.cons (.mo hj hh hm fun _=>rfl) h6 fun _=>rfl,(fun x hx=>by rcases List.mem_cons.1 hx with rfl|hx;rfl;exact h6' x hx),h7.lim fun x=>by (try dsimp only);rw [hS,e8];omega⟩
 | @hp b i u e k s n c c' b1 l l' b' hi _ _ ih1 ih2=>
  intro f L t vs h hr
  cases hr with
  | cons h1 h2 h3=>
   obtain ⟨rfl,rfl⟩:=Ct.split h3;obtain ⟨hrs,ht⟩:=h.take hi .x fun _ _=>.x
   generalize hF:f i=F at hrs ht
   cases hrs with
   | @f _ _ _ _ _ g cap cur us S' _ hκ hro hmk hle hm hsz htk hS=>
    cases hro with
    | yes hn e1 e2 e3 e4 e6 e7 e8=>
     obtain ⟨X1,Sc,f1,hX1,h4,h4',h5⟩:=ih1 ht e2;obtain ⟨X2,S2',f2,hX2,h6,h6',h7⟩:=ih2 h5 (RC.hist (fun _ _ _ h=>h) (fun _ _ _ h=>h) hX1.up h2)
     cases h1 with
     | hd hκ' _=>
      rw [hκ] at hκ';injection hκ' with e';subst e'
      have hup:∀ x,X.R x->X2.R x:=fun x hx=>hX2.up _ (hX1.up _ hx)
      have hj:=RE.join hn (RE.hist (fun _ _ _ h=>h) (fun _ _ _ h=>h) hup e1) (RC.hist (fun _ _ _ h=>h) (fun _ _ _ h=>h) hX2.up h4) e3 e4 h4' (RE.hist (fun _ _ _ h=>h) (fun _ _ _ h=>h) hup e6) fun _=>rfl
      rw [←e7] at hj;have hv:=RV.om (e:=e) hj hmk (by simpa using hle) hm hsz (by simpa using htk) fun _=>rfl
      rw [List.length_set] at hv;exact ⟨X2,_,f2,hX1.trans hX2,.cons hv h6 fun _=>rfl,(fun x hx=>by rcases List.mem_cons.1 hx with rfl|hx;rfl;exact h6' x hx),h7.lim fun x=>by (try dsimp only);rw [hS,e8];omega⟩
def Bx.isR:Bx->Bool
 | .r _ _ _=>true
 | _=>false
def pr (a b:Nat):Nat:=2 ^ a * (2 * b + 1)
theorem pr_inj:∀ {a b c d:Nat},pr a b=pr c d->a=c/\b=d
 | 0,b,0,d,h=>⟨rfl,by simp only [pr,Nat.pow_zero,Nat.one_mul] at h;omega⟩
 | 0,b,c + 1,d,h=>by
  simp only [pr,Nat.pow_zero,Nat.one_mul,Nat.pow_succ] at h;rw [Nat.mul_comm (2 ^ c) 2,Nat.mul_assoc] at h;omega
 | a + 1,b,0,d,h=>by
  simp only [pr,Nat.pow_zero,Nat.one_mul,Nat.pow_succ] at h;rw [Nat.mul_comm (2 ^ a) 2,Nat.mul_assoc] at h;omega
 | a + 1,b,c + 1,d,h=>by
  have:pr a b=pr c d:=by
   simp only [pr,Nat.pow_succ] at h ⊢;rw [Nat.mul_comm (2 ^ a) 2,Nat.mul_assoc,Nat.mul_comm (2 ^ c) 2,Nat.mul_assoc] at h;omega
  obtain ⟨h1,h2⟩:=pr_inj this;exact ⟨by omega,h2⟩
def adC:Option Addr->Nat
 | none=>0
 | some ⟨b,o,none⟩=>pr b (pr o 0) + 1
 | some ⟨b,o,some x⟩=>pr b (pr o (x + 1)) + 1
theorem adC_inj:∀ {A B:Option Addr},adC A=adC B->A=B
 | none,none,_=>rfl
 | none,some ⟨_,_,none⟩,h=>by simp [adC] at h
 | none,some ⟨_,_,some _⟩,h=>by simp [adC] at h
 | some ⟨_,_,none⟩,none,h=>by simp [adC] at h
 | some ⟨_,_,some _⟩,none,h=>by simp [adC] at h
 | some ⟨_,_,none⟩,some ⟨_,_,none⟩,h=>by
  simp only [adC,Nat.add_right_cancel_iff] at h;obtain ⟨rfl,h2⟩:=pr_inj h;obtain ⟨rfl,_⟩:=pr_inj h2;rfl
 | some ⟨_,_,some _⟩,some ⟨_,_,some _⟩,h=>by
  simp only [adC,Nat.add_right_cancel_iff] at h;obtain ⟨rfl,h2⟩:=pr_inj h;obtain ⟨rfl,h3⟩:=pr_inj h2;rw [Nat.succ.inj h3]
 | some ⟨_,_,none⟩,some ⟨_,_,some _⟩,h=>by
  simp only [adC,Nat.add_right_cancel_iff] at h;obtain ⟨_,h2⟩:=pr_inj h;obtain ⟨_,h3⟩:=pr_inj h2;cases h3
 | some ⟨_,_,some _⟩,some ⟨_,_,none⟩,h=>by
  simp only [adC,Nat.add_right_cancel_iff] at h;obtain ⟨_,h2⟩:=pr_inj h;obtain ⟨_,h3⟩:=pr_inj h2;cases h3
def hdC (A:Option Addr) (n c:Nat):Nat:=pr (adC A) (pr n c)
theorem hdC_inj {A B:Option Addr} {n c m d:Nat} (h:hdC A n c=hdC B m d):A=B/\n=m/\c=d:=by
 obtain ⟨h1,h2⟩:=pr_inj h;obtain ⟨h3,h4⟩:=pr_inj h2;exact ⟨adC_inj h1,h3,h4⟩
def Hk (φ:Fi) (κ:Ka) (k u:Nat) (B:Bx) (g:Nat):Prop:=(B.isR=true->∃ A n c,κ k u=some (.slice A n c)/\g=hdC A n c)/\(B.isR=false->φ k u=some g)
theorem Hk.hist {φ φ':Fi} {κ κ':Ka} {k u:Nat} {B:Bx} {g:Nat} (hφ:∀ b u g,φ b u=some g->φ' b u=some g) (hκ:∀ b u v,κ b u=some v->κ' b u=some v) (h:Hk φ κ k u B g):Hk φ' κ' k u B g:=
 ⟨fun e=>let ⟨A,n,c,h1,h2⟩:=h.1 e;⟨A,n,c,hκ _ _ _ h1,h2⟩,fun e=>hφ _ _ _ (h.2 e)⟩
theorem Hk.uniq {φ:Fi} {κ:Ka} {k u:Nat} {B B':Bx} {g g':Nat} (hB:B'.isR=B.isR) (h:Hk φ κ k u B g) (h':Hk φ κ k u B' g'):g=g':=by
 cases e:B.isR with
 | true=>
  obtain ⟨A,n,c,h1,rfl⟩:=h.1 e;obtain ⟨A',n',c',h2,rfl⟩:=h'.1 (hB.trans e);rw [h1] at h2;injection h2 with h2;injection h2 with e1 e2 e3;subst e1 e2 e3;rfl
 | false=>
  have h1:=h.2 e;rw [h'.2 (hB.trans e)] at h1;injection h1 with h1;exact h1.symm
def kφ (ks:List (Nat×Nat)) (φ:Fi):Fi:=fun i v=>if v=0 then (ks[i]?).bind fun p=>φ p.1 p.2 else none
def kκ (ks:List (Nat×Nat)) (κ:Ka):Ka:=fun i v=>if v=0 then (ks[i]?).bind fun p=>κ p.1 p.2 else none
theorem Hk.ks {φ:Fi} {κ:Ka} {ks:List (Nat×Nat)} {i k u g:Nat} {B:Bx} (hi:ks[i]? = some (k,u)) (h:Hk φ κ k u B g):Hk (kφ ks φ) (kκ ks κ) i 0 B g:=
 ⟨fun e=>let ⟨A,n,c,h1,h2⟩:=h.1 e;⟨A,n,c,by simp [kκ,hi,h1],h2⟩,fun e=>by simp [kφ,hi,h.2 e]⟩
theorem kφ_none {φ:Fi} {ks:List (Nat×Nat)} {i v:Nat} (h:ks.length<=i\/0 < v):kφ ks φ i v=none:=by
 unfold kφ;split
 ·rw [List.getElem?_eq_none (by omega)];rfl
 ·rfl
theorem kκ_none {κ:Ka} {ks:List (Nat×Nat)} {i v:Nat} (h:ks.length<=i\/0 < v):kκ ks κ i v=none:=by
 unfold kκ;split
 ·rw [List.getElem?_eq_none (by omega)];rfl
 ·rfl
theorem kφ_at {φ:Fi} {ks:List (Nat×Nat)} {i k u g:Nat} (hi:ks[i]? = some (k,u)) (h:φ k u=some g):kφ ks φ i 0=some g:=by simp [kφ,hi,h]
theorem kκ_at {κ:Ka} {ks:List (Nat×Nat)} {i k u:Nat} {v:Value} (hi:ks[i]? = some (k,u)) (h:κ k u=some v):kκ ks κ i 0=some v:=by simp [kκ,hi,h]
inductive Out:List Sl->List (Nat×Nat)->List Bx->List Sl->Prop
 | nil {b}:Out b [] [] b
 | cons {b k u T l l' b1 ks bs b2}:b[k]? = some ⟨u,.c T l⟩->ClsC (b.set k ⟨u,.o⟩) l l' b1->Out b1 ks bs b2->Out b ((k,u) :: ks) (.c T l' :: bs) b2
 | r {b k u e m s ks bs b2}:b[k]? = some ⟨u,.r e m s⟩->Out (b.set k ⟨u,.o⟩) ks bs b2->Out b ((k,u) :: ks) (.r e m s :: bs) b2
 | f {b k u e m s n c c' b1 ks bs b2}:b[k]? = some ⟨u,.f e m s n c⟩->ClsC (b.set k ⟨u,.o⟩) c c' b1->Out b1 ks bs b2->Out b ((k,u) :: ks) (.r e m (s.set n c') :: bs) b2
inductive RX (w:World) (R:Nat->Prop):Bx->Nat->Ct->Prop
 | c {T l vs g S S'}:w.heap[g]? = some (.cells vs.toArray T (0,0))->RC w (fun _ _=>none) (fun _ _=>none) R l vs S'->(∀ x∈l,x.leaf=true)->(∀ v∈vs,v.oneCell'=true)->(∀ x,S x=(if x=g then 1 else 0) + S' x)->RX w R (.c T l) g S
 | r {e k s A n c S}:RV w (fun _ _=>none) (fun _ _=>none) R (.sl (some e) k s) (.slice A n c) S->RX w R (.r e k s) (hdC A n c) S
inductive RXs (w:World) (R:Nat->Prop):List Bx->List Nat->Ct->Prop
 | nil:RXs w R [] [] Ct.z
 | cons {B g S bs gs T U}:RX w R B g S->RXs w R bs gs T->(∀ x,U x=S x + T x)->RXs w R (B :: bs) (g :: gs) U
theorem RXs.length {R:Nat->Prop}:∀ {bs gs S},RXs w R bs gs S->gs.length=bs.length
 | _,_,_,.nil=>rfl
 | _,_,_,.cons _ h _=>by simp [RXs.length h]
theorem RV.sl_val {R:Nat->Prop} {o:Option TypeId} {k:Nat} {s:List (List AV)} {v:Value} {S:Ct} (h:RV w φ κ R (.sl o k s) v S):∃ A n c,v=.slice A n c:=by
 cases h<;>exact ⟨_,_,_,rfl⟩
theorem SatW.out {b:List Sl} {ks:List (Nat×Nat)} {bs:List Bx} {b':List Sl} (hc:Out b ks bs b'):∀ {f:Nat->Ct} {L:Ct} {t:List AV},SatW X φ κ f L ⟨t,b⟩ a w ->
 ∃ X' gs S f',X.le X'/\RXs w X'.R bs gs S/\SatW X' φ κ f' (fun x=>S x + L x) ⟨t,b'⟩ a w/\∀ (i k u:Nat),ks[i]? = some (k,u)->∃ g B,gs[i]? = some g/\bs[i]? = some B/\Hk φ κ k u B g:=by
 induction hc generalizing X with
 | nil=>exact fun h=>⟨X,[],Ct.z,_,.rfl,.nil,h.lim fun x=>by simp [Ct.z],fun i k u h=>by simp at h⟩
 | @r b k u e m s ks bs b2 hk _ ih=>
  intro f L t h;obtain ⟨hrs,ht⟩:=h.take hk .o fun _ _=>.o
  generalize hF:f k=F at hrs ht
  cases hrs with
  | r hκ hv=>
   obtain ⟨X2,gs,S2,f2,hX2,h3,h4,h5⟩:=ih ht;obtain ⟨A,n,c,rfl⟩:=RV.sl_val hv;refine ⟨X2,hdC A n c :: gs,fun x=>F x + S2 x,f2,hX2,.cons (.r (RV.any _ _ (RV.hist (fun _ _ _ h=>h) (fun _ _ _ h=>h) hX2.up hv) rfl)) h3 fun _=>rfl,h4.lim fun x=>by (try dsimp only);omega,?_⟩;intro i k' u' hi
   cases i with
   | zero=>simp at hi;obtain ⟨rfl,rfl⟩:=hi;exact ⟨_,_,rfl,rfl,⟨fun _=>⟨A,n,c,hκ,rfl⟩,fun e=>by cases e⟩⟩
   | succ i=>simpa using h5 i k' u' (by simpa using hi)
 | @f b k u e m s n c c' b1 ks bs b2 hk hcl _ ih=>
  intro f L t h;obtain ⟨hrs,ht⟩:=h.take hk .o fun _ _=>.o
  generalize hF:f k=F at hrs ht
  cases hrs with
  | @f _ _ _ _ _ g cap cur us S' _ hκ hro hm hle hcap hsz htk hS=>
   cases hro with
   | @yes _ _ us1 cs us2 _ S1 S2 _ hn h6 h7 h8 h9 h10 h11 h12=>
    obtain ⟨X1,Sc,f1,hX1,k1,k2,k3⟩:=SatW.cls hcl ht h7;obtain ⟨X2,gs,S3,f2,hX2,h3,h4,h5⟩:=ih k3;have hje:=RE.join hn (RE.hist (fun _ _ _ h=>h) (fun _ _ _ h=>h) hX1.up h6) k1 h8 h9 k2 (RE.hist (fun _ _ _ h=>h) (fun _ _ _ h=>h) hX1.up h10) (S:=fun x=>S1 x + Sc x + S2 x) fun _=>rfl
    subst h11;have hv:=RV.om (e:=e) (RE.any (fun _ _=>none) (fun _ _=>none) (RE.hist (fun _ _ _ h=>h) (fun _ _ _ h=>h) hX2.up hje)) hm (by rw [List.length_set];exact hle) hcap hsz (by rw [List.length_set];exact htk) (T:=fun x=>(if x=g then 1 else 0) + (S1 x + Sc x + S2 x)) fun _=>rfl
    rw [List.length_set] at hv;refine ⟨X2,hdC (some ⟨g,0,none⟩) s.length cap :: gs,fun x=>((if x=g then 1 else 0) + (S1 x + Sc x + S2 x)) + S3 x,f2,hX1.trans hX2,.cons (.r hv) h3 fun _=>rfl,h4.lim fun x=>by (try dsimp only);rw [hS x,h12 x];omega,?_⟩;intro i k' u' hi
    cases i with
    | zero=>simp at hi;obtain ⟨rfl,rfl⟩:=hi;exact ⟨_,_,rfl,rfl,⟨fun _=>⟨_,_,_,hκ,rfl⟩,fun e=>by cases e⟩⟩
    | succ i=>simpa using h5 i k' u' (by simpa using hi)
 | @cons b k u T l l' b1 ks bs b2 hk hcl _ ih=>
  intro f L t h;obtain ⟨hrs,ht⟩:=h.take hk .o fun _ _=>.o
  generalize hF:f k=F at hrs ht
  cases hrs with
  | c hφ hh hr ho hS=>
   rename_i vs g
   obtain ⟨X1,S1,f1,hX1,h1,h1',h2⟩:=SatW.cls hcl ht hr;obtain ⟨X2,gs,S2,f2,hX2,h3,h4,h5⟩:=ih h2;refine ⟨X2,g :: gs,fun x=>((if x=g then 1 else 0) + S1 x) + S2 x,f2,hX1.trans hX2,.cons (.c hh (RC.any _ _ (RC.hist (fun _ _ _ h=>h) (fun _ _ _ h=>h) hX2.up h1) h1') h1' ho fun _=>rfl) h3 fun _=>rfl,h4.lim fun x=>by (try dsimp only);rw [hS x];omega,?_⟩;intro i k' u' hi
   cases i with
   | zero=>simp at hi;obtain ⟨rfl,rfl⟩:=hi;exact ⟨g,_,rfl,rfl,⟨fun e=>(by cases e),fun _=>hφ⟩⟩
   | succ i=>simpa using h5 i k' u' (by simpa using hi)
theorem SatW.went (h:SatW X φ κ f L s a w) (hfr:Fr w w' L) (h1:∀ x,L' x<=1) (h2:∀ x,L' x≠0->x < w'.heap.size/\(L x≠0\/w.heap.size<=x)):SatW X φ κ f L' s a w':=by
 have hR:∀ x,X.R x->w'.heap[x]? = w.heap[x]?:=fun x hx=>hfr.block x (h.blk (.inl hx)) (by have:=h.not_rd hx;omega)
 have hf:∀ i,i < s.b.length->∀ x,f i x≠0->w'.heap[x]? = w.heap[x]?:=fun i hi x hx=>by
  have:=sumF_le f x _ i hi;have h3:=h.one x;exact hfr.block x (h.blk (.inr ⟨i,hi,hx⟩)) (by omega)
 refine ⟨RC.keep hR h.tm fun x hx=>absurd rfl hx,h.df.keep hR hfr.size,fun i e he=>RS.keep hR (h.sl i e he) (hf i (List.getElem?_eq_some_iff.1 he).1),?_,?_,fun x hx=>?_,?_,h.bas,h.new⟩
 ·intro x;have h3:=h.one x;have h4:=h1 x;have h5:=h2 x;have h6:=h.own x;omega
 ·intro x hx;have h5:=h2 x;have h6:=h.own x;have h7:=h.fr.size;have h8:=hfr.size;have h9:=h.one x
  by_cases hL':L' x=0
  ·have:=h6 (by omega);omega
  ·have h10:=h5 hL';rcases h10.2 with h11|h11
   ·have:=h6 (by omega);exact ⟨h10.1,this.2⟩
   ·exact ⟨h10.1,.inr (by omega)⟩
 ·have h5:=h.rd x hx;have h6:=h2 x;have h7:=hfr.size;exact ⟨by omega,by omega⟩
 ·have h0:=h.fr;refine ⟨hfr.os.trans h0.os,hfr.tape.trans h0.tape,hfr.output.trans h0.output,Nat.le_trans h0.size hfr.size,fun x hx hS=>?_⟩;have h6:=h.own x;rw [hfr.block x (Nat.lt_of_lt_of_le hx h0.size) (by omega)];exact h0.block x hx hS
mutual
def opnA:AV->List Sl->AV×List Sl
 | .sl (some e) k s,b=>(.hd (newS b (.r e k s)).1.1 (newS b (.r e k s)).1.2,(newS b (.r e k s)).2)
 | .ob T l,b=>(.bp (newS (opnC l b).2 (.c T (opnC l b).1)).1.1 (newS (opnC l b).2 (.c T (opnC l b).1)).1.2 0,(newS (opnC l b).2 (.c T (opnC l b).1)).2)
 | .mo ks s,b=>(.hd (newS b (.m ks s none none)).1.1 (newS b (.m ks s none none)).1.2,(newS b (.m ks s none none)).2)
 | a,b=>(a,b)
def opnC:List AV->List Sl->List AV×List Sl
 | [],b=>([],b)
 | a :: l,b=>((opnA a b).1 :: (opnC l (opnA a b).2).1,(opnC l (opnA a b).2).2)
end
def opnV:AV->List Sl->AV×List Sl
 | .ag l,b=>(.ag (opnC l b).1,(opnC l b).2)
 | a,b=>opnA a b
def opnL:List AV->List Sl->List AV×List Sl
 | [],b=>([],b)
 | a :: l,b=>((opnV a b).1 :: (opnL l (opnV a b).2).1,(opnL l (opnV a b).2).2)
def opnR:AV->List Sl->AV×List Sl
 | .tu l,b=>(.tu (opnL l b).1,(opnL l b).2)
 | a,b=>opnV a b
theorem SatW.opn1 (h:SatW X φ κ f L s a w) {e k:Nat} {s':List (List AV)} {v:Value} {S:Ct} (hv:RV w φ κ X.R (.sl (some e) k s') v S) (hL:∀ x,L x=S x + L' x) :
 ∃ φ' κ' f',(∀ b u g,φ b u=some g->φ' b u=some g)/\(∀ b u v,κ b u=some v->κ' b u=some v)/\RV w φ' κ' X.R (.hd (newS s.b (.r e k s')).1.1 (newS s.b (.r e k s')).1.2) v Ct.z/\SatW X φ' κ' f' L' ⟨s.t,(newS s.b (.r e k s')).2⟩ a w:=by
 have h1:v.oneCell'=true:=by cases hv<;>rfl
 obtain ⟨φ',κ',f',h2,h3,h4,h5,h6⟩:=h.newS_ (w':=w) (B:=.r e k s') (g:=S) (L':=L') none (some v) (Nat.le_refl _) rfl rfl rfl (fun _ _ _=>rfl)
  (fun φ' κ' j u a b c d=>.r d (RV.hist a b (fun _ h=>h) hv)) (fun x _=>by have:=hL x;omega)
  (fun x hx=>by
    have h1:=h.one x;have h2:=h.own x;have h3:=hL x;exact ⟨by omega,fun h0=>(h2 (by omega)).1⟩)
 exact ⟨φ',κ',f',h2,h3,.hd h5 h1,h6⟩
def AV.fl:AV->Bool
 | .sc _ | .sl _ _ _ | .bp _ _ _ | .de | .ob _ _ | .mo _ _ | .fs _ _ | .vp _ _ _ | .pz _ | .hd _ _=>true
 | .fn _ c=>c.all fun a=>match a with | .sc _ | .sl none _ _ | .bp _ _ _ | .vp _ _ _ | .de=>true | _=>false
 | _=>false
def AV.tree:AV->Bool
 | .sl (some _) _ _=>true
 | .ob _ _=>true
 | .mo _ _=>true
 | _=>false
theorem leaf_fl {a:AV} (h:a.leaf=true):a.fl=true:=by cases a<;>first|rfl|(cases h;done)
theorem RV.flz {R:Nat->Prop} {a:AV} {v:Value} {S:Ct} (h:RV w φ κ R a v S) (hf:a.fl=true) (ht:a.tree=false):S=Ct.z:=by
 have key:∀ {l:List AV} {vs:List Value} {T:Ct},RC w φ κ R l vs T->(l.all fun a=>match a with | .sc _ | .sl none _ _ | .bp _ _ _ | .vp _ _ _ | .de=>true | _=>false)=true->T=Ct.z:=by
  intro l
  induction l with
  | nil=>intro vs T h _;cases h;rfl
  | cons b l ih=>
   intro vs T h hl;simp only [List.all_cons,Bool.and_eq_true] at hl
   cases h with
   | cons h1 h2 h3=>
    have:=ih h2 hl.2;subst this
    have hz:∀ {v:Value} {S1:Ct},RV w φ κ R b v S1->S1=Ct.z:=fun h=>by
     have hl1:=hl.1;clear hl h1 ih
     cases h<;>first|rfl|(cases hl1;done)
    have:=hz h1;subst this;exact funext fun x=>by rw [h3];simp [Ct.z]
 cases h with
 | fn hc=>exact key hc hf
 | _=>first|rfl|(cases hf;done)|(cases ht;done)
mutual
theorem SatW.opnA_:∀ {b:AV} {v:Value} {S:Ct} {φ:Fi} {κ:Ka} {f:Nat->Ct} {L L':Ct} {s:AS},SatW X φ κ f L s a w->RV w φ κ X.R b v S->(∀ x,L x=S x + L' x)->b.fl=true ->
 ∃ φ' κ' f',(∀ b u g,φ b u=some g->φ' b u=some g)/\(∀ b u v,κ b u=some v->κ' b u=some v)/\RV w φ' κ' X.R (opnA b s.b).1 v Ct.z/\SatW X φ' κ' f' L' ⟨s.t,(opnA b s.b).2⟩ a w
 | .sl (some e) k s',v,S,φ,κ,f,L,L',s,h,hr,hL,_=>by
  simp only [opnA];exact h.opn1 hr hL
 | .ob T l,v,S,φ,κ,f,L,L',s,h,hr,hL,_=>by
  cases hr with
  | @ob _ _ vs g S1 _ hc hlf hh ho hU=>
   obtain ⟨φ1,κ1,f1,e1,e2,e3,e4⟩:=SatW.opnC_ (L':=fun x=>(if x=g then 1 else 0) + L' x) h hc (fun x=>by (try dsimp only);rw [hL,hU];omega) fun x hx=>leaf_fl (hlf x hx)
   have hgl:g < w.heap.size:=(Array.getElem?_eq_some_iff.1 hh).1
   obtain ⟨φ2,κ2,f2,e5,e6,e7,_,e8⟩:=e4.newS_ (w':=w) (B:=.c T (opnC l s.b).1) (g:=fun x=>if x=g then 1 else 0) (L':=L') (some g) none (Nat.le_refl _) rfl rfl rfl (fun _ _ _=>rfl)
    (fun φ' κ' j u a b c d=>.c c hh (RC.hist a b (fun _ h=>h) e3) ho fun _=>rfl) (fun x _=>by (try dsimp only);omega)
    (fun x hx=>by
      have h1:=e4.one x;have h2:=e4.own x;dsimp only at h1 h2;exact ⟨by omega,fun h0=>(h2 (by omega)).1⟩)
   simp only [opnA];exact ⟨φ2,κ2,f2,fun _ _ _ h=>e5 _ _ _ (e1 _ _ _ h),fun _ _ _ h=>e6 _ _ _ (e2 _ _ _ h),.bp e7,e8⟩
 | .mo ks s',v,S,φ,κ,f,L,L',s,h,hr,hL,_=>by
  cases hr with
  | @mo _ _ g es clock us S1 _ he hh hm hU=>
   obtain ⟨φ2,κ2,f2,e5,e6,_,e7,e8⟩:=h.newS_ (w':=w) (B:=.m ks s' none none) (g:=S) (L':=L') none (some (.map (some g))) (Nat.le_refl _) rfl rfl rfl (fun _ _ _=>rfl)
    (fun φ' κ' j u a b c d=>.m d (.no (RE.hist a b (fun _ h=>h) he)) hh hm trivial hU) (fun x _=>by have:=hL x;omega)
    (fun x hx=>by
      have h1:=h.one x;have h2:=h.own x;have h3:=hL x;exact ⟨by omega,fun h0=>(h2 (by omega)).1⟩)
   simp only [opnA];exact ⟨φ2,κ2,f2,e5,e6,.hd e7 rfl,e8⟩
 | .sl none k s',v,S,φ,κ,f,L,L',s,h,hr,hL,hfl=>by
  have hz:=hr.flz hfl rfl;subst hz
  exact ⟨φ,κ,f,fun _ _ _ h=>h,fun _ _ _ h=>h,hr,h.lim fun x=>by have:=hL x;simp only [Ct.z] at this;omega⟩
 | .sc v0,v,S,φ,κ,f,L,L',s,h,hr,hL,hfl=>by
  have hz:=hr.flz hfl rfl;subst hz
  exact ⟨φ,κ,f,fun _ _ _ h=>h,fun _ _ _ h=>h,hr,h.lim fun x=>by have:=hL x;simp only [Ct.z] at this;omega⟩
 | .bp _ _ _,v,S,φ,κ,f,L,L',s,h,hr,hL,hfl=>by
  have hz:=hr.flz hfl rfl;subst hz
  exact ⟨φ,κ,f,fun _ _ _ h=>h,fun _ _ _ h=>h,hr,h.lim fun x=>by have:=hL x;simp only [Ct.z] at this;omega⟩
 | .de,v,S,φ,κ,f,L,L',s,h,hr,hL,hfl=>by
  have hz:=hr.flz hfl rfl;subst hz
  exact ⟨φ,κ,f,fun _ _ _ h=>h,fun _ _ _ h=>h,hr,h.lim fun x=>by have:=hL x;simp only [Ct.z] at this;omega⟩
 | .fn _ _,v,S,φ,κ,f,L,L',s,h,hr,hL,hfl=>by
  have hz:=hr.flz hfl rfl;subst hz
  exact ⟨φ,κ,f,fun _ _ _ h=>h,fun _ _ _ h=>h,hr,h.lim fun x=>by have:=hL x;simp only [Ct.z] at this;omega⟩
 | .hd _ _,v,S,φ,κ,f,L,L',s,h,hr,hL,hfl=>by
  have hz:=hr.flz hfl rfl;subst hz
  exact ⟨φ,κ,f,fun _ _ _ h=>h,fun _ _ _ h=>h,hr,h.lim fun x=>by have:=hL x;simp only [Ct.z] at this;omega⟩
 | .hf _ _,_,_,_,_,_,_,_,_,_,_,_,hfl=>by cases hfl
 | .ep _ _ _ _ _,_,_,_,_,_,_,_,_,_,_,_,hfl=>by cases hfl
 | .rp _ _ _ _,_,_,_,_,_,_,_,_,_,_,_,hfl=>by cases hfl
 | .pz _,v,S,φ,κ,f,L,L',s,h,hr,hL,hfl=>by
  have hz:=hr.flz hfl rfl;subst hz
  exact ⟨φ,κ,f,fun _ _ _ h=>h,fun _ _ _ h=>h,hr,h.lim fun x=>by have:=hL x;simp only [Ct.z] at this;omega⟩
 | .vp _ _ _,v,S,φ,κ,f,L,L',s,h,hr,hL,hfl=>by
  have hz:=hr.flz hfl rfl;subst hz
  exact ⟨φ,κ,f,fun _ _ _ h=>h,fun _ _ _ h=>h,hr,h.lim fun x=>by have:=hL x;simp only [Ct.z] at this;omega⟩
 | .ag _,_,_,_,_,_,_,_,_,_,_,_,hfl=>by cases hfl
 | .tu _,_,_,_,_,_,_,_,_,_,_,_,hfl=>by cases hfl
 | .gd _ _,_,_,_,_,_,_,_,_,_,_,_,hfl=>by cases hfl
 | .fs _ _,v,S,φ,κ,f,L,L',s,h,hr,hL,hfl=>by
  have hz:=hr.flz hfl rfl;subst hz
  exact ⟨φ,κ,f,fun _ _ _ h=>h,fun _ _ _ h=>h,hr,h.lim fun x=>by have:=hL x;simp only [Ct.z] at this;omega⟩
 | .sb _ _ _ _ _ _,_,_,_,_,_,_,_,_,_,_,_,hfl=>by cases hfl
theorem SatW.opnC_:∀ {l:List AV} {vs:List Value} {S:Ct} {φ:Fi} {κ:Ka} {f:Nat->Ct} {L L':Ct} {s:AS},SatW X φ κ f L s a w->RC w φ κ X.R l vs S->(∀ x,L x=S x + L' x) ->
 (∀ x∈l,x.fl=true)->∃ φ' κ' f',(∀ b u g,φ b u=some g->φ' b u=some g)/\(∀ b u v,κ b u=some v->κ' b u=some v)/\RC w φ' κ' X.R (opnC l s.b).1 vs Ct.z/\SatW X φ' κ' f' L' ⟨s.t,(opnC l s.b).2⟩ a w
 | [],vs,S,φ,κ,f,L,L',s,h,hr,hL,_=>by
  cases hr
  exact ⟨φ,κ,f,fun _ _ _ h=>h,fun _ _ _ h=>h,.nil,h.lim fun x=>by have:=hL x;simp only [Ct.z] at this;omega⟩
 | b :: l,vs,S,φ,κ,f,L,L',s,h,hr,hL,hfl=>by
  cases hr with
  | @cons _ _ v vs S1 S2 _ h1 h2 h3=>
   obtain ⟨φ1,κ1,f1,e1,e2,e3,e4⟩:=SatW.opnA_ (L':=fun x=>S2 x + L' x) h h1 (fun x=>by (try dsimp only);rw [hL,h3];omega) (hfl b (by simp));obtain ⟨φ2,κ2,f2,e5,e6,e7,e8⟩:=SatW.opnC_ (L':=L') e4 (RC.hist e1 e2 (fun _ h=>h) h2) (fun x=>rfl) fun x hx=>hfl x (List.mem_cons_of_mem _ hx)
   simp only [opnC];exact ⟨φ2,κ2,f2,fun _ _ _ h=>e5 _ _ _ (e1 _ _ _ h),fun _ _ _ h=>e6 _ _ _ (e2 _ _ _ h),.cons (S:=Ct.z) (T:=Ct.z) (RV.hist e5 e6 (fun _ h=>h) e3) e7 fun _=>rfl,e8⟩
end
def AV.fl1:AV->Prop
 | .ag l=>∀ x∈l,x.fl=true
 | a=>a.fl=true
theorem SatW.opnV_ {v:Value} {S:Ct} {b:AV} (h:SatW X φ κ f L s a w) (hr:RV w φ κ X.R b v S) (hL:∀ x,L x=S x + L' x) (hfl:b.fl1) :
 ∃ φ' κ' f',(∀ b u g,φ b u=some g->φ' b u=some g)/\(∀ b u v,κ b u=some v->κ' b u=some v)/\RV w φ' κ' X.R (opnV b s.b).1 v Ct.z/\SatW X φ' κ' f' L' ⟨s.t,(opnV b s.b).2⟩ a w:=by
 by_cases hag:∃ l,b=.ag l
 ·obtain ⟨l,rfl⟩:=hag
  cases hr with
  | ag hc ho=>
   obtain ⟨φ2,κ2,f2,e5,e6,e7,e8⟩:=h.opnC_ hc hL hfl;exact ⟨φ2,κ2,f2,e5,e6,.ag e7 ho,e8⟩
 ·have hf:b.fl=true:=by cases b<;>first|exact hfl|exact absurd ⟨_,rfl⟩ hag
  have e:opnV b s.b=opnA b s.b:=by cases b<;>first|rfl|exact absurd ⟨_,rfl⟩ hag
  rw [e];exact h.opnA_ hr hL hf
theorem SatW.opnL_:∀ {l:List AV} {vs:List Value} {S:Ct} {φ:Fi} {κ:Ka} {f:Nat->Ct} {L L':Ct} {s:AS},SatW X φ κ f L s a w->RC w φ κ X.R l vs S->(∀ x,L x=S x + L' x) ->
 (∀ x∈l,x.fl1)->∃ φ' κ' f',(∀ b u g,φ b u=some g->φ' b u=some g)/\(∀ b u v,κ b u=some v->κ' b u=some v)/\RC w φ' κ' X.R (opnL l s.b).1 vs Ct.z/\SatW X φ' κ' f' L' ⟨s.t,(opnL l s.b).2⟩ a w:=by
 intro l
 induction l with
 | nil=>
  intro vs S φ κ f L L' s h hr hL _
  cases hr
  exact ⟨φ,κ,f,fun _ _ _ h=>h,fun _ _ _ h=>h,.nil,h.lim fun x=>by have:=hL x;simp only [Ct.z] at this;omega⟩
 | cons b l ih=>
  intro vs S φ κ f L L' s h hr hL hfl
  cases hr with
  | @cons _ _ v vs S1 S2 _ h1 h2 h3=>
   obtain ⟨φ1,κ1,f1,e1,e2,e3,e4⟩:=h.opnV_ (L':=fun x=>S2 x + L' x) h1 (fun x=>by (try dsimp only);rw [hL,h3];omega) (hfl b (by simp));obtain ⟨φ2,κ2,f2,e5,e6,e7,e8⟩:=ih e4 (RC.hist e1 e2 (fun _ h=>h) h2) (fun x=>rfl) fun x hx=>hfl x (List.mem_cons_of_mem _ hx)
   exact ⟨φ2,κ2,f2,fun _ _ _ h=>e5 _ _ _ (e1 _ _ _ h),fun _ _ _ h=>e6 _ _ _ (e2 _ _ _ h),.cons (S:=Ct.z) (T:=Ct.z) (RV.hist e5 e6 (fun _ h=>h) e3) e7 fun _=>rfl,e8⟩
def AV.fl2:AV->Prop
 | .tu l=>∀ x∈l,x.fl1
 | a=>a.fl1
theorem SatW.opnR_ {v:Value} {S:Ct} {b:AV} (h:SatW X φ κ f L s a w) (hr:RV w φ κ X.R b v S) (hL:∀ x,L x=S x + L' x) (hfl:b.fl2) :
 ∃ φ' κ' f',(∀ b u g,φ b u=some g->φ' b u=some g)/\(∀ b u v,κ b u=some v->κ' b u=some v)/\RV w φ' κ' X.R (opnR b s.b).1 v Ct.z/\SatW X φ' κ' f' L' ⟨s.t,(opnR b s.b).2⟩ a w:=by
 by_cases htu:∃ l,b=.tu l
 ·obtain ⟨l,rfl⟩:=htu
  cases hr with
  | tu hc=>
   obtain ⟨φ2,κ2,f2,e5,e6,e7,e8⟩:=h.opnL_ hc hL hfl;exact ⟨φ2,κ2,f2,e5,e6,.tu e7,e8⟩
 ·have e:opnR b s.b=opnV b s.b:=by cases b<;>first|rfl|exact absurd ⟨_,rfl⟩ htu
  rw [e];exact h.opnV_ hr hL (by cases b<;>first|exact hfl|exact absurd ⟨_,rfl⟩ htu)
inductive Bk:List Sl->List (Nat×Nat)->List Bx->List Sl->Prop
 | nil {b}:Bk b [] [] b
 | cons {b k u T l l' b1 ks bs b2}:b[k]? = some ⟨u,.o⟩->opnC l b=(l',b1)->b1[k]? = some ⟨u,.o⟩->Bk (b1.set k ⟨u,.c T l'⟩) ks bs b2->Bk b ((k,u) :: ks) (.c T l :: bs) b2
 | r {b k u e m s ks bs b2}:b[k]? = some ⟨u,.o⟩->Bk (b.set k ⟨u,.r e m s⟩) ks bs b2->Bk b ((k,u) :: ks) (.r e m s :: bs) b2
theorem SatW.bk {b:List Sl} {ks:List (Nat×Nat)} {bs:List Bx} {b':List Sl} (hc:Bk b ks bs b'):∀ {φ:Fi} {κ:Ka} {f:Nat->Ct} {L L' S:Ct} {t:List AV} {gs:List Nat},SatW X φ κ f L ⟨t,b⟩ a w->RXs w X.R bs gs S->(∀ x,L x=S x + L' x) ->
 (∀ (i k u:Nat) (B:Bx),ks[i]? = some (k,u)->bs[i]? = some B->∃ g,gs[i]? = some g/\Hk φ κ k u B g) ->
 ∃ φ' κ' f',(∀ b u g,φ b u=some g->φ' b u=some g)/\(∀ b u v,κ b u=some v->κ' b u=some v)/\SatW X φ' κ' f' L' ⟨t,b'⟩ a w:=by
 induction hc with
 | nil=>
  intro φ κ f L L' S t gs h hr hL _
  cases hr
  exact ⟨φ,κ,f,fun _ _ _ h=>h,fun _ _ _ h=>h,h.lim fun x=>by have:=hL x;simp only [Ct.z] at this;omega⟩
 | @cons b k u T l l' b1 ks bs b2 hk hop hk1 _ ih=>
  intro φ κ f L L' S t gs h hr hL hks
  cases hr with
  | @cons _ g S1 _ gs S2 _ h1 h2 h3=>
   cases h1 with
   | @c _ _ vs _ _ S3 hh hrc hlf ho hS1=>
    have hlf':∀ x∈l,x.fl=true:=fun x hx=>leaf_fl (hlf x hx)
    obtain ⟨φ1,κ1,f1,e1,e2,e3,e4⟩:=h.opnC_ (L':=fun x=>(if x=g then 1 else 0) + (S2 x + L' x)) (RC.any φ κ hrc hlf) (fun x=>by (try dsimp only);rw [hL,h3,hS1];omega) hlf';simp only [hop] at e3 e4;obtain ⟨g',hg',hφ⟩:=hks 0 k u _ rfl rfl;simp at hg';subst hg'
    replace hφ:=hφ.2 rfl
    have hz:∀ x,f1 k x=0:=fun x=>by
     have:=e4.sl k _ hk1;generalize f1 k=F at this
     cases this;rfl
    have hgl:g < w.heap.size:=(Array.getElem?_eq_some_iff.1 hh).1
    have e5:=e4.turn (w':=w) (B:=.c T l') (u:=u) (g:=fun x=>if x=g then 1 else 0) (L':=fun x=>S2 x + L' x) hk1 (fun _ _ _ h=>h) (fun _ _ _ h=>h) (Nat.le_refl _) rfl rfl rfl (fun _ _ _=>rfl)
     (.c (e1 _ _ _ hφ) hh e3 ho fun _=>rfl) (fun x _=>by (try dsimp only);rw [hz x];omega)
     (fun x hx=>by
       have h7:=e4.one x;have h8:=e4.own x;dsimp only at h7 h8;exact ⟨by omega,fun h0=>(h8 (by omega)).1⟩) (Nat.le_refl _) (fun _ _ _ h=>h) (fun _ _ _ h=>h)
    obtain ⟨φ2,κ2,f2,e6,e7,e8⟩:=ih e5 h2 (fun x=>rfl) fun i k' u' B hi hB=>by
     obtain ⟨g2,h9,h10⟩:=hks (i + 1) k' u' B (by simpa using hi) (by simpa using hB);exact ⟨g2,by simpa using h9,h10.hist e1 e2⟩
    exact ⟨φ2,κ2,f2,fun _ _ _ h=>e6 _ _ _ (e1 _ _ _ h),fun _ _ _ h=>e7 _ _ _ (e2 _ _ _ h),e8⟩
 | @r b k u e m s ks bs b2 hk _ ih=>
  intro φ κ f L L' S t gs h hr hL hks
  cases hr with
  | @cons _ g S1 _ gs S2 _ h1 h2 h3=>
   cases h1 with
   | @r _ _ _ A n c _ hv=>
    obtain ⟨g',hg',hφ⟩:=hks 0 k u _ rfl rfl;simp at hg';subst hg'
    obtain ⟨A',n',c',hκ,he⟩:=hφ.1 rfl;obtain ⟨rfl,rfl,rfl⟩:=hdC_inj he
    have hz:∀ x,f k x=0:=fun x=>by
     have:=h.sl k _ hk;generalize f k=F at this
     cases this;rfl
    have e5:=h.turn (w':=w) (B:=.r e m s) (u:=u) (g:=S1) (L':=fun x=>S2 x + L' x) hk (fun _ _ _ h=>h) (fun _ _ _ h=>h) (Nat.le_refl _) rfl rfl rfl (fun _ _ _=>rfl)
     (.r hκ (RV.any _ _ hv rfl)) (fun x _=>by (try dsimp only);rw [hz x,hL,h3];omega)
     (fun x hx=>by
       have h7:=h.one x;have h8:=h.own x;have h9:=hL x;have h10:=h3 x;exact ⟨by omega,fun h0=>(h8 (by omega)).1⟩) (Nat.le_refl _) (fun _ _ _ h=>h) (fun _ _ _ h=>h)
    obtain ⟨φ2,κ2,f2,e6,e7,e8⟩:=ih e5 h2 (fun x=>rfl) fun i k' u' B hi hB=>by
     obtain ⟨g2,h9,h10⟩:=hks (i + 1) k' u' B (by simpa using hi) (by simpa using hB);exact ⟨g2,by simpa using h9,h10⟩
    exact ⟨φ2,κ2,f2,e6,e7,e8⟩
end
def kOk:List Bool->List Bx->Bool
 | [],bs=>bs.all fun B=>!B.isR
 | n :: ns,B :: bs=>(n == B.isR) && kOk ns bs
 | _ :: _,[]=>false
theorem kOk.old:∀ {bs bs':List Bx},kOk (bs.map Bx.isR) bs'=true->∀ {i:Nat} {B:Bx},bs[i]? = some B->∃ B',bs'[i]? = some B'/\B'.isR=B.isR
 | [],_,_,_,_,h=>by simp at h
 | B :: bs,[],h,_,_,_=>by simp [kOk] at h
 | B :: bs,B' :: bs',h,0,B0,hi=>by
  simp only [List.map_cons,kOk,Bool.and_eq_true,beq_iff_eq] at h;simp at hi;subst hi
  exact ⟨B',rfl,h.1.symm⟩
 | B :: bs,B' :: bs',h,i + 1,B0,hi=>by
  simp only [List.map_cons,kOk,Bool.and_eq_true] at h
  simpa using kOk.old h.2 (i:=i) (by simpa using hi)
theorem kOk.fresh:∀ {bs bs':List Bx},kOk (bs.map Bx.isR) bs'=true->∀ {i:Nat} {B:Bx},bs.length<=i->bs'[i]? = some B->B.isR=false
 | [],bs',h,i,B,_,hi=>by
  simp only [List.map_nil,kOk,List.all_eq_true] at h
  simpa using h B (List.mem_of_getElem? hi)
 | B :: bs,[],h,_,_,_,_=>by simp [kOk] at h
 | B :: bs,B' :: bs',h,0,B0,hl,hi=>by simp at hl
 | B :: bs,B' :: bs',h,i + 1,B0,hl,hi=>by
  simp only [List.map_cons,kOk,Bool.and_eq_true] at h;exact kOk.fresh h.2 (i:=i) (by simpa using hl) (by simpa using hi)
def AC (P:Program) (fn:Nat) (args:List AV) (bs:List Bx) (Q:AV->List Bx->Prop):Prop:=
 (∀ (xs:Array Value) (w:World),(callFunc fn xs).run P w=.ok (.enter fn xs) w) /\
 ∀ (w:World) (φ:Fi) (κ:Ka) (R:Nat->Prop) (vs:List Value) (gs:List Nat) (Sa Sb:Ct),
  RC w φ κ R args vs Sa->RXs w R bs gs Sb->(∀ (i g:Nat) (B:Bx),gs[i]? = some g->bs[i]? = some B->Hk φ κ i 0 B g)->(∀ (i v:Nat),(bs.length<=i\/0 < v)->φ i v=none)->(∀ (i v:Nat),(bs.length<=i\/0 < v)->κ i v=none) ->
  (∀ x,Sa x + Sb x<=1)->(∀ x,Sa x + Sb x≠0->x < w.heap.size)->(∀ x,R x->x < w.heap.size/\Sa x + Sb x=0) ->
  Calls P fn vs.toArray w fun e w'=>∃ v r bs' gs' Sr Sb' φ',∃ F:Nat->Prop,e=.returned v/\Q r bs'/\RV w' φ' (fun _ _=>none) (fun x=>R x\/F x) r v Sr/\RXs w' (fun x=>R x\/F x) bs' gs' Sb' /\
   (∀ (i g:Nat),φ' i 0=some g->gs'[i]? = some g/\∃ B,bs'[i]? = some B/\B.isR=false)/\((∀ (i g:Nat),gs[i]? = some g->gs'[i]? = some g)/\kOk (bs.map Bx.isR) bs'=true) /\
   (∀ x,Sr x + Sb' x<=1)/\(∀ x,Sr x + Sb' x≠0\/F x->x < w'.heap.size/\(Sa x + Sb x≠0\/w.heap.size<=x))/\(∀ x,F x->Sr x + Sb' x=0)/\Fr w w' (fun x=>Sa x + Sb x)
abbrev AF (f:Nat) (l:List AV) (r:AV):Prop:=AC prog f l [] (fun v b=>v=r/\b=[])
inductive VsM (ks:List (Nat×Nat)):List (Nat×Nat)->List (Nat×Nat)->Prop
 | nil:VsM ks [] []
 | cons {k u i l l'}:ks[i]? = some (k,u)->VsM ks l l'->VsM ks ((k,u) :: l) ((i,0) :: l')
theorem VsM.length {ks:List (Nat×Nat)}:∀ {l l':List (Nat×Nat)},VsM ks l l'->l'.length=l.length
 | _,_,.nil=>rfl
 | _,_,.cons _ h=>by simp [h.length]
theorem VsM.at_ {ks:List (Nat×Nat)}:∀ {l l':List (Nat×Nat)},VsM ks l l'->∀ {j:Nat} {p:Nat×Nat},l'[j]? = some p->∃ k u,l[j]? = some (k,u)/\p.2=0/\ks[p.1]? = some (k,u)
 | _,_,.nil,_,_,h=>by simp at h
 | _,_,.cons h1 _,0,_,h=>by simp at h;subst h;exact ⟨_,_,rfl,rfl,h1⟩
 | _,_,.cons _ h2,j + 1,_,h=>by simpa using h2.at_ (j:=j) (by simpa using h)
mutual
inductive PasV (lb:Bool) (ks:List (Nat×Nat)) (bf:List Sl):List Sl->AV->AV->List Sl->Prop
 | leaf {b a}:a.leaf=true->PasV lb ks bf b a a b
 | nl {b o k}:PasV lb ks bf b (.sc (.slice none 0 0)) (.sl o k []) b
 | bp {b i k u off}:ks[i]? = some (k,u)->PasV lb ks bf b (.bp k u off) (.bp i 0 off) b
 | pz {b l l'}:VsM ks l l'->PasV lb ks bf b (.pz l) (.pz l') b
 | hk {b i k u}:ks[i]? = some (k,u)->PasV lb ks bf b (.hd k u) (.hd i 0) b
 | vp {b i k u off}:ks[i]? = some (k,u)->PasV lb ks bf b (.vp k u off) (.vp i 0 off) b
 | lend {b j u e k s s'}:lb=true->bf[j]? = some ⟨u,.r e k s⟩->roE s=s'->PasV lb ks bf b (.hd j u) (.sl none k s') b
 | lsb {b j u o n c T l r}:lb=true->bf[j]? = some ⟨u,.c T l⟩->Nat.ble (o + n) l.length=true->((l.drop o).take n).all AV.leaf=true->((l.drop o).take n).map (fun a=>[a])=r->PasV lb ks bf b (.sb j u 1 o n c) (.sl none 1 r) b
 | mv {b j u e k s}:b[j]? = some ⟨u,.r e k s⟩->PasV lb ks bf b (.hd j u) (.sl (some e) k s) (b.set j ⟨u,.x⟩)
 | fs {b k s}:PasV lb ks bf b (.fs k s) (.sl none k s) b
 | any {b a}:PasV lb ks bf b a .de b
 | ag {b l l' b'}:PasC lb ks bf b l l' b'->PasV lb ks bf b (.ag l) (.ag l') b'
 | fn {b f l l' b'}:PasC lb ks bf b l l' b'->bdC l=bdC l'->PasV lb ks bf b (.fn f l) (.fn f l') b'
inductive PasC (lb:Bool) (ks:List (Nat×Nat)) (bf:List Sl):List Sl->List AV->List AV->List Sl->Prop
 | nil {b}:PasC lb ks bf b [] [] b
 | cons {b a a' b1 l l' b2}:PasV lb ks bf b a a' b1->PasC lb ks bf b1 l l' b2->PasC lb ks bf b (a :: l) (a' :: l') b2
end
mutual
theorem PasV.nobf {ks:List (Nat×Nat)} {bf:List Sl} (bf':List Sl):∀ {b:List Sl} {x x':AV} {b':List Sl},PasV false ks bf b x x' b'->PasV false ks bf' b x x' b'
 | _,_,_,_,.leaf h=>.leaf h
 | _,_,_,_,.nl=>.nl
 | _,_,_,_,.bp h=>.bp h
 | _,_,_,_,.vp h=>.vp h
 | _,_,_,_,.pz h=>.pz h
 | _,_,_,_,.hk h=>.hk h
 | _,_,_,_,.lend h _ _=>by cases h
 | _,_,_,_,.lsb h _ _ _ _=>by cases h
 | _,_,_,_,.mv h=>.mv h
 | _,_,_,_,.fs=>.fs
 | _,_,_,_,.any=>.any
 | _,_,_,_,.ag h=>.ag (PasC.nobf bf' h)
 | _,_,_,_,.fn h e=>.fn (PasC.nobf bf' h) e
theorem PasC.nobf {ks:List (Nat×Nat)} {bf:List Sl} (bf':List Sl):∀ {b:List Sl} {l l':List AV} {b':List Sl},PasC false ks bf b l l' b'->PasC false ks bf' b l l' b'
 | _,_,_,_,.nil=>.nil
 | _,_,_,_,.cons h k=>.cons (PasV.nobf bf' h) (PasC.nobf bf' k)
end
section
variable {X:Cx} {φ φ':Fi} {κ κ':Ka} {f:Nat->Ct} {L L':Ct} {s:AS} {a:Act} {w w':World}
def lendR (lb:Bool) (X:Cx) (ff:Nat->Ct) (n:Nat):Nat->Prop:=fun x=>X.R x\/(lb=true/\sumF ff n x≠0)
def Fin (lb:Bool) (X:Cx) (φ:Fi) (κ:Ka) (a:Act) (w:World) (ks:List (Nat×Nat)) (bf:List Sl) (t:List AV) (C:(Nat->Prop)->Fi->Ka->Prop):Prop:=
 ∀ (X':Cx) (ff:Nat->Ct) (LL:Ct) (φc:Fi) (κc:Ka),X.le X'->SatW X' φ κ ff LL ⟨t,bf⟩ a w->(∀ (i k u g:Nat),ks[i]? = some (k,u)->φ k u=some g->φc i 0=some g)->(∀ (i k u:Nat) (v:Value),ks[i]? = some (k,u)->κ k u=some v->κc i 0=some v)->C (lendR lb X' ff bf.length) φc κc
theorem RC.rows1 {R:Nat->Prop}:∀ {l:List AV} {vs:List Value},RC w φ κ R l vs Ct.z->(∀ v∈vs,v.oneCell'=true)->(∀ x∈l,x.leaf=true)->RE w φ κ R 1 (l.map fun a=>[a]) vs Ct.z
 | _,_,.nil,_,_=>.nil
 | _,_,.cons (a:=a) (v:=v) h1 h2 h3,ho,hl=>by
  obtain ⟨rfl,rfl⟩:=Ct.split h3;exact .cons (S:=Ct.z) (T:=Ct.z) (us:=[v]) (.cons (S:=Ct.z) (T:=Ct.z) h1 .nil fun _=>rfl) rfl ⟨fun u hu=>ho u (by simp at hu;simp [hu]),fun x hx=>hl x (by simp at hx;simp [hx])⟩ (RC.rows1 h2 (fun v hv=>ho v (by simp [hv])) fun x hx=>hl x (by simp [hx])) fun _=>rfl
mutual
theorem SatW.pasV {lb:Bool} {ks:List (Nat×Nat)} {bf:List Sl} {t:List AV}:∀ {b:List Sl} {av av':AV} {b':List Sl},PasV lb ks bf b av av' b'->∀ {f:Nat->Ct} {L:Ct} {v:Value},SatW X φ κ f L ⟨t,b⟩ a w->RV w φ κ X.R av v Ct.z ->
 ∃ S f',SatW X φ κ f' (fun x=>S x + L x) ⟨t,b'⟩ a w/\Fin lb X φ κ a w ks bf t (fun R φc κc=>RV w φc κc R av' v S)
 | _,_,_,_,.leaf hl,f,L,v,h,hr=>⟨Ct.z,f,h.lim fun x=>by simp [Ct.z],fun X' ff LL φc κc hX _ _ _=>RV.hist (fun _ _ _ h=>h) (fun _ _ _ h=>h) (fun _ h=>.inl (hX.up _ h)) (RV.any φc κc hr hl)⟩
 | _,_,_,_,.nl,f,L,v,h,hr=>⟨Ct.z,f,h.lim fun x=>by simp [Ct.z],fun X' ff LL φc κc _ _ _ _=>by cases hr;exact .ni⟩
 | _,_,_,_,.bp hk,f,L,v,h,hr=>⟨Ct.z,f,h.lim fun x=>by simp [Ct.z],fun X' ff LL φc κc _ _ hks _=>by cases hr with|bp hg=>exact .bp (hks _ _ _ _ hk hg)⟩
 | _,_,_,_,.pz hm,f,L,v,h,hr=>⟨Ct.z,f,h.lim fun x=>by simp [Ct.z],fun X' ff LL φc κc hX _ hks _=>by
  cases hr with
  | pz h1 h2 a b=>
   rw [←hm.length] at a ⊢
   exact .pz (.inl (hX.up _ h1)) (fun j p hp=>by
    obtain ⟨k,u,e1,e2,e3⟩:=hm.at_ hp;obtain ⟨g,e4,e5⟩:=h2 j _ e1;exact ⟨g,by rw [e2];exact hks _ _ _ _ e3 e4,e5⟩) a b⟩
 | _,_,_,_,.hk hi,f,L,v,h,hr=>⟨Ct.z,f,h.lim fun x=>by simp [Ct.z],fun X' ff LL φc κc _ _ _ hkκ=>by cases hr with|hd hκ h1=>exact .hd (hkκ _ _ _ _ hi hκ) h1⟩
 | _,_,_,_,.vp hk,f,L,v,h,hr=>⟨Ct.z,f,h.lim fun x=>by simp [Ct.z],fun X' ff LL φc κc hX _ hks _=>by cases hr with|vp hg h2 h3=>exact .vp (hks _ _ _ _ hk hg) (.inl (hX.up _ h2)) h3⟩
 | _,_,_,_,(.lend (j:=j) hlb hj hs),f,L,v,h,hr=>⟨Ct.z,f,h.lim fun x=>by simp [Ct.z],fun X' ff LL φc κc hX hf _ _=>by
  have h1:=hf.sl _ _ hj;have hjl:j < bf.length:=(List.getElem?_eq_some_iff.1 hj).1
  cases hr with
  | hd hκ _=>
   generalize hS:ff j=S at h1
   cases h1 with
   | r hκ' hv=>
    rw [hκ] at hκ';injection hκ' with e;subst e
    subst hs;have h2:=RV.ro_ hv;refine RV.hist (fun _ _ _ h=>h) (fun _ _ _ h=>h) ?_ (RV.any φc κc h2 rfl);rintro x (hx|hx)
    ·exact .inl hx
    ·have:=sumF_le ff x _ j hjl;rw [←hS] at hx;exact .inr ⟨hlb,by omega⟩⟩
 | _,_,_,_,(.lsb (j:=j) (o:=o) (n:=n) (c:=c) (T:=T) (l:=l) hlb hj hle hlf he),f,L,v,h,hr=>⟨Ct.z,f,h.lim fun x=>by simp [Ct.z],fun X' ff LL φc κc hX hf _ _=>by
  have hle:=Nat.le_of_ble_eq_true hle;have h1:=hf.sl _ _ hj;have hjl:j < bf.length:=(List.getElem?_eq_some_iff.1 hj).1
  cases hr with
  | @sb _ _ _ _ _ _ g hφ hnc hcm=>
   generalize hS:ff j=S at h1
   cases h1 with
   | @c _ _ vs g' _ hφ' hh hc ho1 hSx=>
    rw [hφ] at hφ';injection hφ' with e;subst e
    subst he;have hvl:=hc.length;have hlm:(((l.drop o).take n).map fun a=>[a]).length=n:=by rw [List.length_map,List.length_take,List.length_drop];omega
    have hpc:RC w φ κ X'.R ((l.drop o).take n) ((vs.drop o).take n) Ct.z:=RC.of_at (by simp;omega) fun i a hi=>by
     rw [List.getElem?_take] at hi;split at hi
     ·rename_i hin
      rw [List.getElem?_drop] at hi;obtain ⟨v,hv1,hv2⟩:=hc.at_ hi;exact ⟨v,by rw [List.getElem?_take,if_pos hin,List.getElem?_drop];exact hv1,hv2⟩
     ·cases hi
    have hre:=RE.any φc κc (RC.rows1 hpc (fun v hv=>ho1 v (List.mem_of_mem_drop (List.mem_of_mem_take hv))) (fun x hx=>List.all_eq_true.1 hlf x hx))
    have hrv:RV w φc κc (lendR lb X' ff bf.length) (.sl none 1 (((l.drop o).take n).map fun a=>[a])) (.slice (some ⟨g,o,none⟩) (((l.drop o).take n).map fun a=>[a]).length c) Ct.z:=.ro (RE.hist (fun _ _ _ h=>h) (fun _ _ _ h=>h) (fun _ h=>.inl h) hre) (by rw [hlm];exact hnc) hcm (fun _=>.inr ⟨hlb,by
     have h2:=sumF_le ff g _ j hjl;have h3:=hSx g;rw [hS] at h2;simp at h3;omega⟩) fun i u hi=>by
     rw [List.getElem?_take] at hi;split at hi
     ·rw [List.getElem?_drop] at hi;rw [cell_of_row w g (o + i) vs.toArray T (0,0) hh];simpa using hi
     ·cases hi
    rw [hlm] at hrv;exact hrv⟩
 | _,_,_,_,.mv hj,f,L,v,h,hr=>by
  obtain ⟨hrs,ht⟩:=h.take hj .x fun _ _=>.x
  cases hrs with
  | r hκ hv=>
   cases hr with
   | hd hκ' _=>
    rw [hκ] at hκ';injection hκ' with e;subst e
    exact ⟨_,_,ht,fun X' ff LL φc κc hX _ _ _=>RV.hist (fun _ _ _ h=>h) (fun _ _ _ h=>h) (fun _ h=>.inl (hX.up _ h)) (RV.any φc κc hv rfl)⟩
 | _,_,_,_,.fs,f,L,v,h,hr=>⟨Ct.z,f,h.lim fun x=>by simp [Ct.z],fun X' ff LL φc κc hX _ _ _=>by
  generalize hz:Ct.z=Z at hr ⊢
  cases hr with
  | fs h1 _=>exact RV.hist (fun _ _ _ h=>h) (fun _ _ _ h=>h) (fun _ h=>.inl (hX.up _ h)) (RV.any φc κc h1 rfl)⟩
 | _,_,_,_,.any,f,L,v,h,hr=>⟨Ct.z,f,h.lim fun x=>by simp [Ct.z],fun X' ff LL φc κc _ _ _ _=>.de⟩
 | _,_,_,_,.ag hc,f,L,v,h,hr=>by
  cases hr with
  | ag hrc ho=>
   obtain ⟨S,f',h1,h2⟩:=SatW.pasC hc h hrc;exact ⟨S,f',h1,fun X' ff LL φc κc hX h3 h4 h5=>.ag (h2 X' ff LL φc κc hX h3 h4 h5) ho⟩
 | _,_,_,_,.fn hc hbd,f,L,v,h,hr=>by
  cases hr with
  | fn hrc=>
   obtain ⟨S,f',h1,h2⟩:=SatW.pasC hc h hrc;rw [hbd];exact ⟨S,f',h1,fun X' ff LL φc κc hX h3 h4 h5=>.fn (h2 X' ff LL φc κc hX h3 h4 h5)⟩
theorem SatW.pasC {lb:Bool} {ks:List (Nat×Nat)} {bf:List Sl} {t:List AV}:∀ {b:List Sl} {l l':List AV} {b':List Sl},PasC lb ks bf b l l' b'->∀ {f:Nat->Ct} {L:Ct} {vs:List Value},SatW X φ κ f L ⟨t,b⟩ a w->RC w φ κ X.R l vs Ct.z ->
 ∃ S f',SatW X φ κ f' (fun x=>S x + L x) ⟨t,b'⟩ a w/\Fin lb X φ κ a w ks bf t (fun R φc κc=>RC w φc κc R l' vs S)
 | _,_,_,_,.nil,f,L,vs,h,hr=>⟨Ct.z,f,h.lim fun x=>by simp [Ct.z],fun X' ff LL φc κc _ _ _ _=>by cases hr;exact .nil⟩
 | _,_,_,_,.cons hv hc,f,L,vs,h,hr=>by
  cases hr with
  | cons h1 h2 h3=>
   obtain ⟨rfl,rfl⟩:=Ct.split h3;obtain ⟨S1,f1,h4,h5⟩:=SatW.pasV hv h h1;obtain ⟨S2,f2,h6,h7⟩:=SatW.pasC hc h4 h2;exact ⟨fun x=>S1 x + S2 x,f2,h6.lim fun x=>by (try dsimp only);omega,fun X' ff LL φc κc hX h8 h9 h10=>.cons (h5 X' ff LL φc κc hX h8 h9 h10) (h7 X' ff LL φc κc hX h8 h9 h10) fun _=>rfl⟩
end
mutual
inductive RnV (ks:List (Nat×Nat)):AV->AV->Prop
 | leaf {x}:x.leaf=true->RnV ks x x
 | bp {i k u off}:ks[i]? = some (k,u)->RnV ks (.bp i 0 off) (.bp k u off)
 | ag {l l'}:RnC ks l l'->RnV ks (.ag l) (.ag l')
 | tu {l l'}:RnC ks l l'->RnV ks (.tu l) (.tu l')
 | fn {f l l'}:RnC ks l l'->RnV ks (.fn f l) (.fn f l')
 | fs {k s}:RnV ks (.fs k s) (.fs k s)
inductive RnC (ks:List (Nat×Nat)):List AV->List AV->Prop
 | nil:RnC ks [] []
 | cons {x x' l l'}:RnV ks x x'->RnC ks l l'->RnC ks (x :: l) (x' :: l')
end
theorem bdC_rn {ks:List (Nat×Nat)}:∀ {l l':List AV},RnC ks l l'->bdC l=bdC l'
 | _,_,.nil=>rfl
 | _,_,.cons h _=>by cases h<;>first|rfl|exact bdC_hd _ _ _
mutual
theorem RnV.to {R:Nat->Prop} {ks:List (Nat×Nat)} (hk:∀ (i k u g:Nat),ks[i]? = some (k,u)->φ i 0=some g->φ' k u=some g) (κ':Ka):∀ {a a':AV},RnV ks a a'->∀ {v:Value} {S:Ct},RV w φ κ R a v S->RV w φ' κ' R a' v S
 | _,_,.leaf hl,_,_,hr=>RV.any _ _ hr hl
 | _,_,.bp hi,_,_,hr=>by cases hr with|bp hg=>exact .bp (hk _ _ _ _ hi hg)
 | _,_,.ag hc,_,_,hr=>by cases hr with|ag h1 h2=>exact .ag (RnC.to hk κ' hc h1) h2
 | _,_,.tu hc,_,_,hr=>by cases hr with|tu h1=>exact .tu (RnC.to hk κ' hc h1)
 | _,_,.fn hc,_,_,hr=>by cases hr with|fn h1=>rw [bdC_rn hc];exact .fn (RnC.to hk κ' hc h1)
 | _,_,.fs,_,_,hr=>by cases hr with|fs h1 h2=>exact .fs (RV.any _ _ h1 rfl) h2
theorem RnC.to {R:Nat->Prop} {ks:List (Nat×Nat)} (hk:∀ (i k u g:Nat),ks[i]? = some (k,u)->φ i 0=some g->φ' k u=some g) (κ':Ka):∀ {l l':List AV},RnC ks l l'->∀ {vs:List Value} {S:Ct},RC w φ κ R l vs S->RC w φ' κ' R l' vs S
 | _,_,.nil,_,_,hr=>by cases hr;exact .nil
 | _,_,.cons h1 h2,_,_,hr=>by cases hr with|cons h3 h4 h5=>exact .cons (RnV.to hk κ' h1 h3) (RnC.to hk κ' h2 h4) h5
end
def plc:Nat->List Sl->List (Nat×Nat)×List Sl
 | 0,b=>([],b)
 | n + 1,b=>(((newS b .o).1) :: (plc n (newS b .o).2).1,(plc n (newS b .o).2).2)
theorem SatW.plc_:∀ (n:Nat) {φ:Fi} {κ:Ka} {f:Nat->Ct} {s:AS} (gs:List Nat),gs.length=n->SatW X φ κ f L s a w ->
 ∃ φ' κ' f',(∀ b u g,φ b u=some g->φ' b u=some g)/\(∀ b u v,κ b u=some v->κ' b u=some v)/\SatW X φ' κ' f' L ⟨s.t,(plc n s.b).2⟩ a w/\∀ (i k u:Nat),(plc n s.b).1[i]? = some (k,u)->∃ g,gs[i]? = some g/\φ' k u=some g
 | 0,φ,κ,f,s,gs,hl,h=>⟨φ,κ,f,fun _ _ _ h=>h,fun _ _ _ h=>h,h,fun i k u hi=>by simp [plc] at hi⟩
 | n + 1,φ,κ,f,s,gs,hl,h=>by
  cases gs with
  | nil=>simp at hl
  | cons g gs=>
   obtain ⟨φ1,κ1,f1,e1,e2,e3,e4,e5⟩:=h.newS_ (w':=w) (B:=.o) (g:=Ct.z) (L':=L) (some g) none (Nat.le_refl _) rfl rfl rfl (fun _ _ _=>rfl) (fun _ _ _ _ _ _ _ _=>.o) (fun x _=>by simp [Ct.z])
    (fun x hx=>by
      have h1:=h.own x;have h2:=h.one x;simp only [Ct.z];exact ⟨by omega,fun h0=>(h1 (by omega)).1⟩)
   obtain ⟨φ2,κ2,f2,e6,e7,e8,e9⟩:=SatW.plc_ n gs (by simpa using hl) e5;refine ⟨φ2,κ2,f2,fun _ _ _ h=>e6 _ _ _ (e1 _ _ _ h),fun _ _ _ h=>e7 _ _ _ (e2 _ _ _ h),e8,fun i k u hi=>?_⟩
   cases i with
   | zero=>
    simp only [plc,List.getElem?_cons_zero,Option.some.injEq] at hi;refine ⟨g,rfl,e6 _ _ _ ?_⟩;rw [hi] at e3;exact e3
   | succ i=>simpa using e9 i k u (by simpa [plc] using hi)
def NRB:Bx->Prop
 | .c _ l=>∀ a∈l,NR a
 | .r e k s=>NR (.sl (some e) k s)
 | _=>True
theorem RXs.nr {R:Nat->Prop} (R':Nat->Prop):∀ {bs gs S},RXs w R bs gs S->(∀ B∈bs,NRB B)->RXs w R' bs gs S
 | _,_,_,.nil,_=>.nil
 | _,_,_,.cons (.r a) h1 h2,hn=>.cons (.r (RV.nr R' a (show NRB (.r _ _ _) from hn _ List.mem_cons_self))) (RXs.nr R' h1 fun B hB=>hn B (by simp [hB])) h2
 | _,_,_,.cons (.c a b c d e) h1 h2,hn=>.cons (.c a (RC.nr R' b (show NRB (.c _ _) from hn _ List.mem_cons_self)) c d e) (RXs.nr R' h1 fun B hB=>hn B (by simp [hB])) h2
theorem RXs.mono {R R':Nat->Prop} (h:∀ x,R x->R' x):∀ {bs gs S},RXs w R bs gs S->RXs w R' bs gs S
 | _,_,_,.nil=>.nil
 | _,_,_,.cons (.r a) h1 h2=>.cons (.r (RV.hist (fun _ _ _ h=>h) (fun _ _ _ h=>h) h a)) (RXs.mono h h1) h2
 | _,_,_,.cons (.c a b c d e) h1 h2=>.cons (.c a (RC.hist (fun _ _ _ h=>h) (fun _ _ _ h=>h) h b) c d e) (RXs.mono h h1) h2
variable {P:Program} {ops:Array Oper} {rest:List Oper} {o:Oper} {av:AV} {Q:Exit->AS->Prop}
theorem SatW.evl (h:SatW X φ κ f L s a w):∀ xs:List Operand,RC w φ κ X.R (xs.map (aev s)) (xs.map a.eval) Ct.z
 | []=>.nil
 | x :: xs=>.cons (S:=Ct.z) (T:=Ct.z) (h.ev x) (h.evl xs) fun _=>rfl
theorem run_callv {fn:Nat} {b:Bool} {fo:Operand} {xs:Array Operand} {tys:Array TypeId} {cvs:List Value} (ho:o.op=.call { callee:=.value fo,args:=xs,argTypes:=tys }) (hf:a.eval fo=fnV fn b cvs)
 (hc:∀ (xs:Array Value) (w:World),(callFunc fn xs).run P w=.ok (.enter fn xs) w):(execOp a.eval o).run P w=.ok (.enter fn (fnX b cvs (xs.toList.map a.eval)).toArray) w:=by
 have e0:∀ l:List Value,(xs.toList.map a.eval ++ l).toArray=xs.map a.eval ++ l.toArray:=fun l=>by cases xs;simp
 have e1:∀ l:List Value,(l ++ xs.toList.map a.eval).toArray=l.toArray ++ xs.map a.eval:=fun l=>by cases xs;simp
 cases b with
 | false=>
  simp only [fnV] at hf;simp only [execOp,ho,resolve,Deferred.ofValue,hf,Sem.run_bind,Sem.run_pure,Result.andThen_ok,invoke,Array.empty_append,fnX,e0];exact hc _ _
 | true=>
  simp only [fnV] at hf;simp only [execOp,ho,resolve,Deferred.ofValue,hf,Sem.run_bind,Sem.run_pure,Result.andThen_ok,invoke,Array.append_empty,fnX,e1];exact hc _ _
theorem rc_fnA {w:World} {φ:Fi} {κ:Ka} {R:Nat->Prop} {cap l:List AV} {cvs us:List Value} (h1:RC w φ κ R cap cvs Ct.z) (h2:RC w φ κ R l us Ct.z):RC w φ κ R (fnA cap l) (fnX (bdC cap) cvs us) Ct.z:=by
 unfold fnA fnX
 cases hb:bdC cap with
 | false=>exact h2.append h1 (U:=Ct.z) fun _=>rfl
 | true=>
  cases h1 with
  | nil=>cases hb
  | cons h3 h4 h5=>
   obtain ⟨rfl,rfl⟩:=Ct.split h5;exact h4.append h2 (U:=Ct.z) fun _=>rfl
theorem Out.length:∀ {b:List Sl} {ks:List (Nat×Nat)} {bs:List Bx} {b':List Sl},Out b ks bs b'->ks.length=bs.length
 | _,_,_,_,.nil=>rfl
 | _,_,_,_,.cons _ _ h=>by simp [Out.length h]
 | _,_,_,_,.r _ h=>by simp [Out.length h]
 | _,_,_,_,.f _ _ h=>by simp [Out.length h]
theorem ent_of {ks:List (Nat×Nat)} {bs:List Bx} {gs:List Nat} (hkl:ks.length=bs.length) (h4:∀ (i k u:Nat),ks[i]? = some (k,u)->∃ g B,gs[i]? = some g/\bs[i]? = some B/\Hk φ κ k u B g) (i g:Nat) (B:Bx) (hg:gs[i]? = some g) (hB:bs[i]? = some B):Hk (kφ ks φ) (kκ ks κ) i 0 B g:=by
 have hil:i < ks.length:=by rw [hkl];exact (List.getElem?_eq_some_iff.1 hB).1
 obtain ⟨g',B',h5,h6,h7⟩:=h4 i _ _ (List.getElem?_eq_getElem hil);rw [hg] at h5;rw [hB] at h6;injection h5 with h5;injection h6 with h6;subst h5 h6
 exact h7.ks (List.getElem?_eq_getElem hil)
theorem Hk.kd {k u g:Nat} {B B':Bx} (hB:B'.isR=B.isR) (h:Hk φ κ k u B g):Hk φ κ k u B' g:=by
 unfold Hk at *;rw [hB];exact h
theorem ap_call (lb:Bool) {fn:Nat} {fo:Operand} {cap:List AV} {xs:Array Operand} {tys:Array TypeId} {ks:List (Nat×Nat)} {al:List AV} {bs:List Bx} {b1 bf:List Sl} {Qc:AV->List Bx->Prop}
 (hg:o.guard=none) (ho:o.op=.call { callee:=.value fo,args:=xs,argTypes:=tys }) (hfo:aev s fo=.fn fn cap) (hc:AC P fn al bs Qc)
 (hp:PasC lb ks bf s.b (fnA cap (xs.toList.map (aev s))) al b1) (hout:Out b1 ks bs bf)
 (hn:lb=true->∀ r bs',Qc r bs'->NR r/\∀ B∈bs',NRB B)
 (K:∀ r bs',Qc r bs'->∃ n r1 b3,bs'.length=ks.length + n/\Bk (plc n bf).2 (ks ++ (plc n bf).1) bs' b3/\RnV (ks ++ (plc n bf).1) r r1/\r1.fl2/\AP P X ops Q rest (AS.put ⟨s.t,(opnR r1 b3).2⟩ o.dst (opnR r1 b3).1)):AP P X ops Q (o :: rest) s:=by
 rintro a w ⟨X0,φ,κ,f,hX0,h⟩;refine wpL_plain hg fun K' hK'=>?_
 have hfv:=h.evs hfo
 obtain ⟨cvs,hcv,hcr⟩:∃ cvs:List Value,a.eval fo=fnV fn (bdC cap) cvs/\RC w φ κ X0.R cap cvs Ct.z:=by
  generalize a.eval fo=v at hfv
  cases hfv with|fn h=>exact ⟨_,rfl,h⟩
 have hrun:=run_callv (P:=P) (w:=w) ho hcv hc.1;refine wpO_enter hrun ?_;obtain ⟨S1,f1,h1,hfin⟩:=SatW.pasC (t:=s.t) hp h (rc_fnA hcr (h.evl xs.toList));obtain ⟨X1,gs,Sb,f2,hX1,h2,h3,h4⟩:=SatW.out hout h1;have hkl:ks.length=bs.length:=hout.length;have hgl:=h2.length;have hargs:=hfin X1 f2 _ (kφ ks φ) (kκ ks κ) hX1 h3 (fun i k u g hi hg=>kφ_at hi hg) (fun i k u v hi hv=>kκ_at hi hv);have hsum:∀ x,S1 x + Sb x=Sb x + (S1 x + Ct.z x):=fun x=>by simp only [Ct.z];omega
 have hcalls:=hc.2 w _ _ (lendR lb X1 f2 bf.length) _ gs S1 Sb hargs (RXs.mono (fun x hx=>.inl hx) h2) (ent_of hkl h4) (fun i v hv=>kφ_none (by rw [hkl];exact hv)) (fun i v hv=>kκ_none (by rw [hkl];exact hv)) (fun x=>by have:=h3.one x;rw [hsum];dsimp only at this ⊢;omega) (fun x hx=>(h3.own x (by rw [hsum] at hx;dsimp only;omega)).1)
  (fun x hx=>by
    rw [hsum];rcases hx with hx|⟨_,hx⟩
    ·have h5:=h3.not_rd hx;exact ⟨h3.blk (.inl hx),by dsimp only at h5 ⊢;omega⟩
    ·have h5:=h3.one x;have h6:=h3.own x;dsimp only at h5 h6 ⊢;exact ⟨(h6 (by omega)).1,by omega⟩)
 refine hcalls.mono ?_;rintro e w' ⟨v,r,bs',gs',Sr,Sb',φ',F,rfl,hQ,hr,hrx,h5,h6,h7,h8,hF,h9⟩;obtain ⟨n,r1,b3,hlen,hbk,hrn,hfl,hK⟩:=K r bs' hQ
 have h10:SatW X1 φ κ f2 (fun x=>Sr x + Sb' x) ⟨s.t,bf⟩ a w':=by
  have hfr:Fr w w' (fun x=>Sb x + (S1 x + Ct.z x)):=by
   have e:(fun x=>S1 x + Sb x)=(fun x=>Sb x + (S1 x + Ct.z x)):=funext hsum;rw [←e];exact h9
  refine h3.went hfr h7 fun x hx=>?_
  have:=h8 x (.inl hx);rw [hsum] at this;exact this
 obtain ⟨X2,hX2,h11,hr2,hrx2⟩:∃ X2,X1.le X2/\SatW X2 φ κ f2 (fun x=>Sr x + Sb' x) ⟨s.t,bf⟩ a w'/\RV w' φ' (fun _ _=>none) X2.R r v Sr/\RXs w' X2.R bs' gs' Sb':=by
  cases lb with
  | true=>
   obtain ⟨hnr,hnb⟩:=hn rfl r bs' hQ;exact ⟨X1,.rfl,h10,RV.nr X1.R hr hnr,hrx.nr X1.R hnb⟩
  | false=>
   have hle:∀ x,lendR false X1 f2 bf.length x\/F x->X1.R x\/F x:=fun x hx=>hx.imp (fun h=>h.elim id fun h=>by cases h.1) id
   have hdn:∀ x,X1.R x\/F x->X1.R x\/X1.S0 x≠0\/X1.w0.heap.size<=x:=fun x hx=>hx.imp id fun hx=>by
    have h12:=h8 x (.inr hx);rcases h12.2 with h13|h13
    ·exact (h3.own x (by rw [hsum] at h13;dsimp only;omega)).2
    ·have:=h3.fr.size;exact .inr (by omega)
   refine ⟨X1.gr (fun x=>X1.R x\/F x),Cx.le_gr (fun x hx=>.inl hx) hdn,h10.grow (fun x hx=>.inl hx) (fun x hx=>?_) hdn,RV.hist (fun _ _ _ h=>h) (fun _ _ _ h=>h) hle hr,RXs.mono hle hrx⟩
   ·rcases hx with hx|hx
    ·exact h10.rd x hx
    ·have h12:=h8 x (.inr hx);have h13:=hF x hx;have h14:=h3.one x;have h15:=h3.own x;refine ⟨h12.1,?_⟩;dsimp only at h14 h15 ⊢;rcases h12.2 with h16|h16
     ·rw [hsum] at h16;omega
     ·omega
 have hgl':=hrx2.length;obtain ⟨φ2,κ2,f3,e1,e2,e3,e4⟩:=SatW.plc_ (s:=⟨s.t,bf⟩) n (gs'.drop ks.length) (by simp;omega) h11
 have hks:∀ (i k u:Nat) (B:Bx),(ks ++ (plc n bf).1)[i]? = some (k,u)->bs'[i]? = some B->∃ g,gs'[i]? = some g/\Hk φ2 κ2 k u B g:=by
  intro i k u B hi hB
  by_cases hil:i < ks.length
  ·rw [List.getElem?_append_left hil] at hi;obtain ⟨g,B0,h11,h11',h12⟩:=h4 i k u hi;obtain ⟨B',h13,h14⟩:=kOk.old h6.2 h11';rw [hB] at h13;injection h13 with h13;subst h13
   exact ⟨g,h6.1 i g h11,(h12.hist e1 e2).kd h14⟩
  ·rw [List.getElem?_append_right (by omega)] at hi;obtain ⟨g,h11,h12⟩:=e4 _ k u hi;rw [List.getElem?_drop,show ks.length + (i - ks.length)=i by omega] at h11;exact ⟨g,h11,fun e=>(by rw [kOk.fresh h6.2 (by omega) hB] at e;cases e),fun _=>h12⟩
 obtain ⟨φ3,κ3,f4,e5,e6,e7⟩:=SatW.bk hbk (L':=Sr) e3 hrx2 (fun x=>by (try dsimp only);omega) hks
 have hr1:RV w' φ3 κ3 X2.R r1 v Sr:=RnV.to (fun i k u g hi hg=>by
  obtain ⟨h13,B,h14,h15⟩:=h5 i g hg;obtain ⟨g',h11,h12⟩:=hks i k u B hi h14;rw [h13] at h11;injection h11 with e;subst e
  exact e5 _ _ _ (h12.2 h15)) κ3 hrn hr2
 obtain ⟨φ4,κ4,f5,e8,e9,e10,e11⟩:=e7.opnR_ (L':=Ct.z) hr1 (fun x=>by simp [Ct.z]) hfl;exact ⟨v,rfl,hK' _ _ (hK _ _ ⟨X2,φ4,κ4,f5,hX0.trans (hX1.trans hX2),e11.puts o.dst e10⟩)⟩
theorem AC.ro {fn:Nat} {args:List AV} {bs bs2:List Bx} {r r2:AV} (h:AC P fn args bs (fun v bs'=>v=r/\bs'=bs2)) (e:r.ro=r2):AC P fn args bs (fun v bs'=>v=r2/\bs'=bs2):=
 ⟨h.1,fun w φ κ R vs gs Sa Sb a1 a2 a3 a4 a5 a6 a7 a8=>(h.2 w φ κ R vs gs Sa Sb a1 a2 a3 a4 a5 a6 a7 a8).mono fun ee w' ⟨v,r',bs',gs',Sr,Sb',φ',F,h1,h2,h3,h4,h5,h6,h7,h8,h9,h10⟩=>by
  obtain ⟨rfl,rfl⟩:=h2;subst e;refine ⟨v,_,_,gs',Ct.z,Sb',φ',fun x=>F x\/Sr x≠0,h1,⟨rfl,rfl⟩,?_,RXs.mono (fun x hx=>hx.imp id .inl) h4,h5,h6,fun x=>by have:=h7 x;simp only [Ct.z];omega,fun x hx=>h8 x ?_,fun x hx=>?_,h10⟩
  ·exact RV.hist (fun _ _ _ h=>h) (fun _ _ _ h=>h) (fun x hx=>by rcases hx with (hx|hx)|hx;exact .inl hx;exact .inr (.inl hx);exact .inr (.inr hx)) (RV.ro_ h3)
  ·rcases hx with hx|hx|hx
   ·left;simp only [Ct.z] at hx;omega
   ·exact .inr hx
   ·left;omega
  ·have:=h7 x;simp only [Ct.z];rcases hx with hx|hx
   ·have:=h9 x hx;omega
   ·omega⟩
end
def CP (P:Program) (X:Cx) (c:Code) (Q:Exit->AS->Prop) (s:AS):Prop:=∀ a w,Sat X s a w->wpC X.ρ P c (lift X Q) a w
def thenQ (K:AS->Prop) (Q:Exit->AS->Prop):Exit->AS->Prop
 | .normal,s=>K s
 | e,s=>Q e s
def inB (id:Nat) (Q:Exit->AS->Prop):Exit->AS->Prop
 | .exit id',s=>if id'=id then Q .normal s else Q (.exit id') s
 | e,s=>Q e s
section
variable {P:Program} {X:Cx} {s:AS} {Q:Exit->AS->Prop}
theorem CP.mono {c:Code} {Q':Exit->AS->Prop} (h:CP P X c Q s) (hq:∀ e s,Q e s->Q' e s):CP P X c Q' s:=
 fun a w hs=>wpIn_mono (h a w hs) fun e a w ⟨s',h1,h2⟩=>⟨s',hq e s' h1,h2⟩
theorem cp_seq {x y:Code} (h:CP P X x (thenQ (CP P X y Q) Q) s):CP P X (.seq x y) Q s:=fun a w hs=>
 wpIn_seq (wpIn_mono (h a w hs) fun e a' w' ⟨s',h1,h2⟩=>by
  cases e with
  | normal=>exact h1 a' w' h2
  | _=>exact ⟨s',h1,h2⟩)
theorem cp_region {id:Nat} {l:List Oper} (h:AP P X l.toArray Q l s):CP P X (.region id l.toArray false) Q s:=fun a w hs=>wpIn_region_lit (h a w hs)
theorem cp_regG {id:Nat} {l:List Oper} {y:Code} (h:∀ Q',(∀ s',CP P X y Q s'->Q' .normal s')->AP P X l.toArray Q' l s):CP P X (.seq (.region id l.toArray false) y) Q s:=
 cp_seq (cp_region (h (thenQ (CP P X y Q) Q) fun _ h=>h))
theorem cp_cond {c:Operand} {x y:Code} {t:Bool} (hc:aev s c=.sc (.bool t)) (h1:t=true->CP P X x Q s) (h2:t=false->CP P X y Q s):CP P X (.cond c x y) Q s:=fun a w hs=>by
 obtain ⟨X',φ,κ,f,hX,h⟩:=hs;refine wpIn_cond (t:=t) (h.evc hc) ?_
 cases t with
 | true=>exact h1 rfl a w ⟨X',φ,κ,f,hX,h⟩
 | false=>exact h2 rfl a w ⟨X',φ,κ,f,hX,h⟩
theorem cp_condT {c:Operand} {x y:Code} (hc:aev s c=.sc (.bool true)) (h:CP P X x Q s):CP P X (.cond c x y) Q s:=cp_cond hc (fun _=>h) fun h=>by cases h
theorem cp_condF {c:Operand} {x y:Code} (hc:aev s c=.sc (.bool false)) (h:CP P X y Q s):CP P X (.cond c x y) Q s:=cp_cond hc (fun h=>by cases h) fun _=>h
theorem inB_hit {id:Nat} (h:Q .normal s):inB id Q (.exit id) s:=by simp only [inB,if_true];exact h
theorem inB_miss {id id':Nat} (hn:Nat.beq id' id=false) (h:Q (.exit id') s):inB id Q (.exit id') s:=by
 have:¬ id'=id:=Nat.ne_of_beq_eq_false hn;simp only [inB,this,if_false];exact h
theorem inB_n {id:Nat} (h:Q .normal s):inB id Q .normal s:=h
theorem inB_r {id:Nat} (h:Q .ret s):inB id Q .ret s:=h
theorem thenQ_n {K:AS->Prop} (h:K s):thenQ K Q .normal s:=h
theorem thenQ_r {K:AS->Prop} (h:Q .ret s):thenQ K Q .ret s:=h
theorem thenQ_e {K:AS->Prop} {id:Nat} (h:Q (.exit id) s):thenQ K Q (.exit id) s:=h
theorem cp_block {id:Nat} {c:Code} (h:CP P X c (inB id Q) s):CP P X (.block id c) Q s:=fun a w hs=>
 wpIn_block (wpIn_mono (h a w hs) fun e a' w' ⟨s',h1,h2⟩=>by
  cases e with
  | exit id'=>
   simp only [inB] at h1;simp only [Exit.inBlock];split
   ·rename_i hi;rw [if_pos hi] at h1;exact ⟨s',h1,h2⟩
   ·rename_i hi;rw [if_neg hi] at h1;exact ⟨s',h1,h2⟩
  | _=>exact ⟨s',h1,h2⟩)
theorem cp_exit {id:Nat} (h:Q (.exit id) s):CP P X (.exit id) Q s:=fun _ _ hs=>wpIn_exit ⟨s,h,hs⟩
theorem cp_ret (h:Q .ret s):CP P X .ret Q s:=fun _ _ hs=>wpIn_ret ⟨s,h,hs⟩
theorem cp_skip (h:Q .normal s):CP P X .skip Q s:=fun _ _ hs=>wpIn_skip ⟨s,h,hs⟩
theorem least {p:Nat->Prop}:∀ n,p n->∃ m,p m/\∀ k,k < m->¬ p k:=by
 intro n
 induction n using Nat.strongRecOn with
 | _ n ih=>
  intro hn
  by_cases h:∃ k,k < n/\p k
  ·obtain ⟨k,hk,hp⟩:=h;exact ih k hk hp
  ·exact ⟨n,hn,fun k hk hp=>h ⟨k,hk,hp⟩⟩
open Classical in
noncomputable def lst (p:Nat->Prop):Nat:=if h:∃ m,p m/\∀ k,k < m->¬ p k then Classical.choose h else 0
theorem lst_spec {p:Nat->Prop} {n:Nat} (h:p n):p (lst p)/\lst p<=n:=by
 have hl:=least n h;unfold lst;rw [dif_pos hl];have:=Classical.choose_spec hl;exact ⟨this.1,Nat.le_of_not_lt fun hlt=>this.2 n hlt h⟩
theorem cp_loop {c:Code} (I:Nat->AS->Prop) (n:Nat) (h0:I n s) (round:∀ n s,I n s->CP P X c (thenQ (fun s'=>∃ m,m < n/\I m s') Q) s):CP P X (.loop c) Q s:=fun a w hs=>by
 refine wpIn_loop (fun a w=>∃ n s,I n s/\Sat X s a w) (fun a w=>lst fun n=>∃ s,I n s/\Sat X s a w) ⟨n,s,h0,hs⟩ ?_;rintro a w ⟨n,s,hI,hs⟩;obtain ⟨⟨s1,h1,h2⟩,_⟩:=lst_spec (p:=fun n=>∃ s,I n s/\Sat X s a w) ⟨s,hI,hs⟩;refine wpIn_mono (round _ s1 h1 a w h2) ?_;rintro e a' w' ⟨s',h3,h4⟩
 cases e with
 | normal=>
  obtain ⟨m,hm,hI'⟩:=h3;refine ⟨⟨m,s',hI',h4⟩,?_⟩;have:=(lst_spec (p:=fun n=>∃ s,I n s/\Sat X s a' w') ⟨s',hI',h4⟩).2;exact Nat.lt_of_le_of_lt this hm
 | _=>exact ⟨s',h3,h4⟩
inductive Res1 (s:AS):ResultVar->AV->Prop
 | tmp {t av}:s.t.getD t .de=av->Res1 s (.tmp t) av
 | row {t T T' b u l i}:s.t.getD t .de=.bp b u 0->s.b[b]? = some ⟨u,.c T' l⟩->tt[T]? = some i->(match i.kd with | .st _=>true | .ar _ _=>true | _=>false)=true->l.length=i.size->Res1 s (.cell t T) (.ag l)
 | flat {t T T' b u l i av}:s.t.getD t .de=.bp b u 0->s.b[b]? = some ⟨u,.c T' l⟩->tt[T]? = some i->(match i.kd with | .st _=>true | .ar _ _=>true | _=>false)=false->l[0]? = some av->Res1 s (.cell t T) av
inductive ResL (s:AS):List ResultVar->List AV->Prop
 | nil:ResL s [] []
 | cons {r rs v vs}:Res1 s r v->ResL s rs vs->ResL s (r :: rs) (v :: vs)
def resV:List AV->AV
 | [v]=>v
 | l=>.tu l
inductive ClsV:List Sl->AV->AV->List Sl->Prop
 | ag {b l l' b'}:ClsC b l l' b'->ClsV b (.ag l) (.ag l') b'
 | one {b v v' b'}:ClsC b [v] [v'] b'->ClsV b v v' b'
 | bp {b k u off}:ClsV b (.bp k u off) (.bp k u off) b
 | de {b v}:ClsV b v .de b
 | fn {b f c}:ClsV b (.fn f c) (.fn f c) b
 | fs {b k s}:ClsV b (.fs k s) (.fs k s) b
 | id {b v}:ClsV b v v b
inductive ClsL:List Sl->List AV->List AV->List Sl->Prop
 | nil {b}:ClsL b [] [] b
 | cons {b v v' b1 l l' b2}:ClsV b v v' b1->ClsL b1 l l' b2->ClsL b (v :: l) (v' :: l') b2
inductive ClsR:List Sl->AV->AV->List Sl->Prop
 | tu {b l l' b'}:ClsL b l l' b'->ClsR b (.tu l) (.tu l') b'
 | one {b v v' b'}:ClsV b v v' b'->ClsR b v v' b'
def mskK (N:Nat):List Bool->List (Nat×Nat)->List (Nat×Nat)
 | [],ks=>ks
 | false :: ns,p :: ks=>p :: mskK N ns ks
 | true :: ns,_ :: ks=>(N,0) :: mskK N ns ks
 | _ :: _,[]=>[]
theorem mskK_at {N:Nat}:∀ {ns:List Bool} {ks:List (Nat×Nat)} {i k u:Nat},(mskK N ns ks)[i]? = some (k,u)->(k=N/\u=0)\/(ks[i]? = some (k,u)/\ns[i]? ≠ some true)
 | [],_,_,_,_,h=>.inr ⟨h,by simp⟩
 | false :: _,[],_,_,_,h=>by simp [mskK] at h
 | true :: _,[],_,_,_,h=>by simp [mskK] at h
 | false :: _,_ :: _,0,_,_,h=>.inr ⟨by simpa [mskK] using h,by simp⟩
 | true :: _,_ :: _,0,_,_,h=>by simp [mskK] at h;exact .inl ⟨h.1.symm,h.2.symm⟩
 | false :: ns,_ :: ks,i + 1,_,_,h=>by simpa using mskK_at (ns:=ns) (ks:=ks) (i:=i) (by simpa [mskK] using h)
 | true :: ns,_ :: ks,i + 1,_,_,h=>by simpa using mskK_at (ns:=ns) (ks:=ks) (i:=i) (by simpa [mskK] using h)
def RetQ (F:Func) (n:List Bool) (Q:AV->List Bx->Prop):Exit->AS->Prop:=fun e s=>
 (e=.normal\/e=.ret)/\∃ vs r1 b1 ks r bs' b2,ResL s F.results.toList vs/\ClsR s.b (resV vs) r1 b1/\Out b1 ks bs' b2/\RnV (mskK s.b.length n ks) r r1/\(∀ i,i < n.length->ks[i]? = some (i,0))/\kOk n bs'=true/\Q r bs'
end
section
variable {X:Cx} {φ φ':Fi} {κ κ':Ka} {f:Nat->Ct} {L L':Ct} {s:AS} {a:Act} {w w':World}
theorem SatW.clsV {b:List Sl} {v v':AV} {b':List Sl} (hc:ClsV b v v' b') {t:List AV} {x:Value} (h:SatW X φ κ f L ⟨t,b⟩ a w) (hr:RV w φ κ X.R v x Ct.z) :
 ∃ X' S f',X.le X'/\RV w φ κ X'.R v' x S/\SatW X' φ κ f' (fun x=>S x + L x) ⟨t,b'⟩ a w:=by
 cases hc with
 | ag hc=>
  cases hr with
  | ag h1 h2=>
   obtain ⟨X',S,f',hX,h3,_,h4⟩:=SatW.cls hc h h1;exact ⟨X',S,f',hX,.ag h3 h2,h4⟩
 | one hc=>
  obtain ⟨X',S,f',hX,h3,_,h4⟩:=SatW.cls hc h (.cons (S:=Ct.z) (T:=Ct.z) hr .nil fun _=>rfl)
  cases h3 with
  | @cons _ _ _ _ S1 S2 _ h5 h6 h7=>
   cases h6
   exact ⟨X',S1,f',hX,h5,h4.lim fun x=>by have:=h7 x;simp only [Ct.z] at this;omega⟩
 | bp=>exact ⟨X,Ct.z,f,.rfl,hr,h.lim fun x=>by simp [Ct.z]⟩
 | fn=>exact ⟨X,Ct.z,f,.rfl,hr,h.lim fun x=>by simp [Ct.z]⟩
 | fs=>exact ⟨X,Ct.z,f,.rfl,hr,h.lim fun x=>by simp [Ct.z]⟩
 | id=>exact ⟨X,Ct.z,f,.rfl,hr,h.lim fun x=>by simp [Ct.z]⟩
 | de=>exact ⟨X,Ct.z,f,.rfl,.de,h.lim fun x=>by simp [Ct.z]⟩
theorem SatW.clsL {b:List Sl} {l l':List AV} {b':List Sl} (hc:ClsL b l l' b'):∀ {f:Nat->Ct} {L:Ct} {t:List AV} {vs:List Value},SatW X φ κ f L ⟨t,b⟩ a w->RC w φ κ X.R l vs Ct.z ->
 ∃ X' S f',X.le X'/\RC w φ κ X'.R l' vs S/\SatW X' φ κ f' (fun x=>S x + L x) ⟨t,b'⟩ a w:=by
 induction hc generalizing X with
 | nil=>exact fun h hr=>⟨X,Ct.z,_,.rfl,hr,h.lim fun x=>by simp [Ct.z]⟩
 | cons hv _ ih=>
  intro f L t vs h hr
  cases hr with
  | cons h1 h2 h3=>
   obtain ⟨rfl,rfl⟩:=Ct.split h3;obtain ⟨X1,S1,f1,hX1,h4,h5⟩:=SatW.clsV hv h h1;obtain ⟨X2,S2,f2,hX2,h6,h7⟩:=ih h5 (RC.hist (fun _ _ _ h=>h) (fun _ _ _ h=>h) hX1.up h2);exact ⟨X2,fun x=>S1 x + S2 x,f2,hX1.trans hX2,.cons (RV.hist (fun _ _ _ h=>h) (fun _ _ _ h=>h) hX2.up h4) h6 fun _=>rfl,h7.lim fun x=>by (try dsimp only);omega⟩
theorem SatW.clsR {b:List Sl} {v v':AV} {b':List Sl} (hc:ClsR b v v' b') {t:List AV} {x:Value} (h:SatW X φ κ f L ⟨t,b⟩ a w) (hr:RV w φ κ X.R v x Ct.z) :
 ∃ X' S f',X.le X'/\RV w φ κ X'.R v' x S/\SatW X' φ κ f' (fun x=>S x + L x) ⟨t,b'⟩ a w:=by
 cases hc with
 | tu hc=>
  cases hr with
  | tu h1=>
   obtain ⟨X',S,f',hX,h3,h4⟩:=SatW.clsL hc h h1;exact ⟨X',S,f',hX,.tu h3,h4⟩
 | one hc=>exact SatW.clsV hc h hr
def resOne (tmps:Array Value):ResultVar->Sem Value
 | .tmp t=>pure (tmps.getD t undef)
 | .cell c t=>do loadVar t (←asAddr (tmps.getD c undef))
theorem run_res1 {r:ResultVar} {av:AV} (h:SatW X φ κ f L s a w) (hr:Res1 s r av) :
 ∃ v,RV w φ κ X.R av v Ct.z/\(resOne a.tmps r).run prog w=.ok v w:=by
 cases hr with
 | tmp ht=>exact ⟨_,ht ▸ h.tmp _,rfl⟩
 | @row t T T' b u l i ht hs hT hk hl=>
  obtain ⟨d,hd,hrow,hi⟩:=ty_row hT hk;obtain ⟨g,vs,he,hh,hc,h1⟩:=h.cells (Below.refl _ _) (x:=.tmp t) (off:=0) ht hs;have hlen:=hc.length;have e:a.tmps.getD t undef=.pointer (some ⟨g,0,none⟩):=he;refine ⟨_,.ag hc h1,?_⟩;have hr:w.rangeAt g 0 vs:=fun j v hv=>by rw [cell_of_row w g (0 + j) vs.toArray T' (0,0) hh];simpa using hv
  simp only [resOne,e];have:=run_loadVar_mid w g 0 T vs d hr hd hrow (by rw [hi,hlen,hl]);simp only [asAddr,Sem.run_bind,Sem.run_pure,Result.andThen_ok];exact this
 | @flat t T T' b u l i _ ht hs hT hk hl=>
  obtain ⟨d,hd,hrow,hi⟩:=ty_flat hT hk;obtain ⟨g,vs,he,hh,hc,h1⟩:=h.cells (Below.refl _ _) (x:=.tmp t) (off:=0) ht hs;obtain ⟨v,hv,hrv⟩:=hc.at_ hl;have e:a.tmps.getD t undef=.pointer (some ⟨g,0,none⟩):=he;refine ⟨v,hrv,?_⟩;have hcell:w.cell? ⟨g,0,none⟩=some v:=by rw [cell_of_row w g 0 vs.toArray T' (0,0) hh];simpa using hv
  have:=run_loadAt_flat w hd hrow hcell;simp only [resOne,e];simp only [Instr.loadAt,Instr.sureAddr,Sem.run_bind,Sem.run_pure,Result.andThen_ok] at this;simp only [asAddr,Sem.run_bind,Sem.run_pure,Result.andThen_ok];exact this
theorem run_resL:∀ {rs:List ResultVar} {l:List AV},SatW X φ κ f L s a w->ResL s rs l ->
 ∃ vs,RC w φ κ X.R l vs Ct.z/\(rs.mapM (resOne a.tmps)).run prog w=.ok vs w
 | _,_,h,.nil=>⟨[],.nil,rfl⟩
 | _,_,h,.cons h1 h2=>by
  obtain ⟨v,hv,hr⟩:=run_res1 h h1;obtain ⟨vs,hvs,hrs⟩:=run_resL h h2;refine ⟨v :: vs,.cons (S:=Ct.z) (T:=Ct.z) hv hvs fun _=>rfl,?_⟩;rw [List.mapM_cons];simp only [Sem.run_bind,hr,hrs,Result.andThen_ok];rfl
theorem run_results {F:Func} {l:List AV} (h:SatW X φ κ f L s a w) (hl:ResL s F.results.toList l):∃ v,RV w φ κ X.R (resV l) v Ct.z/\(results F a.tmps).run prog w=.ok v w:=by
 obtain ⟨vs,hvs,hr⟩:=run_resL h hl
 have hm:(F.results.mapM (resOne a.tmps)).run prog w=.ok vs.toArray w:=by
  rw [Array.mapM_eq_mapM_toList]
  show Sem.run prog ((List.mapM (resOne a.tmps) F.results.toList) >>= (Sem.pure ∘ List.toArray)) w=_
  rw [Sem.run_bind,hr];rfl
 refine ⟨if h:vs.toArray.size=1 then vs.toArray[0] else .tuple vs.toArray,?_,?_⟩
 ·cases hvs with
  | nil=>exact .tu .nil
  | cons h1 h2 h3=>
   obtain ⟨rfl,rfl⟩:=Ct.split h3
   cases h2 with
   | nil=>exact h1
   | cons h4 h5 h6=>
    exact .tu (.cons (S:=Ct.z) (T:=Ct.z) h1 (.cons h4 h5 h6) fun _=>rfl)
 ·have e:results F a.tmps=(do let vs ←F.results.mapM (resOne a.tmps);pure (if h:vs.size=1 then vs[0] else .tuple vs)):=by
   unfold results
   congr 1
  rw [e,Sem.run_bind,hm];rfl
end
mutual
theorem RnV.fro {w:World} {φ φ':Fi} {κ:Ka} {R:Nat->Prop} {ks:List (Nat×Nat)} (hk:∀ (i k u g:Nat),ks[i]? = some (k,u)->φ k u=some g->φ' i 0=some g) (κ':Ka):∀ {x x':AV},RnV ks x x'->∀ {v:Value} {S:Ct},RV w φ κ R x' v S->RV w φ' κ' R x v S
 | _,_,.leaf hl,_,_,hr=>RV.any _ _ hr hl
 | _,_,.bp hi,_,_,hr=>by cases hr with|bp hg=>exact .bp (hk _ _ _ _ hi hg)
 | _,_,.ag hc,_,_,hr=>by cases hr with|ag h1 h2=>exact .ag (RnC.fro hk κ' hc h1) h2
 | _,_,.tu hc,_,_,hr=>by cases hr with|tu h1=>exact .tu (RnC.fro hk κ' hc h1)
 | _,_,.fn hc,_,_,hr=>by cases hr with|fn h1=>rw [←bdC_rn hc];exact .fn (RnC.fro hk κ' hc h1)
 | _,_,.fs,_,_,hr=>by cases hr with|fs h1 h2=>exact .fs (RV.any _ _ h1 rfl) h2
theorem RnC.fro {w:World} {φ φ':Fi} {κ:Ka} {R:Nat->Prop} {ks:List (Nat×Nat)} (hk:∀ (i k u g:Nat),ks[i]? = some (k,u)->φ k u=some g->φ' i 0=some g) (κ':Ka):∀ {l l':List AV},RnC ks l l'->∀ {vs:List Value} {S:Ct},RC w φ κ R l' vs S->RC w φ' κ' R l vs S
 | _,_,.nil,_,_,hr=>by cases hr;exact .nil
 | _,_,.cons h1 h2,_,_,hr=>by cases hr with|cons h3 h4 h5=>exact .cons (RnV.fro hk κ' h1 h3) (RnC.fro hk κ' h2 h4) h5
end
theorem sumF_z (n x:Nat):sumF (fun _=>Ct.z) n x=0:=by
 induction n with
 | zero=>rfl
 | succ n ih=>simp [sumF,ih,Ct.z]
theorem RC.des {w:World} {φ:Fi} {κ:Ka} {R:Nat->Prop}:∀ (us:List Value),RC w φ κ R (List.replicate us.length .de) us Ct.z
 | []=>.nil
 | u :: us=>by simp only [List.length_cons,List.replicate_succ];exact .cons (S:=Ct.z) (T:=Ct.z) .de (RC.des us) fun _=>rfl
theorem RC.und {w:World} {φ:Fi} {κ:Ka} {R:Nat->Prop}:∀ (n:Nat),RC w φ κ R (List.replicate n (.tu [])) (List.replicate n undef) Ct.z
 | 0=>.nil
 | n + 1=>by simp only [List.replicate_succ];exact .cons (S:=Ct.z) (T:=Ct.z) (.tu .nil) (RC.und n) fun _=>rfl
def shut (w:World):List Nat->World
 | []=>w
 | D :: Ds=>shut (w.putObj D (.deferred none)) Ds
theorem shut_size:∀ (Ds:List Nat) (w:World),(shut w Ds).heap.size=w.heap.size
 | [],_=>rfl
 | D :: Ds,w=>(shut_size Ds _).trans (by simp)
theorem shut_os:∀ (Ds:List Nat) (w:World),(shut w Ds).os=w.os/\(shut w Ds).tape=w.tape/\(shut w Ds).output=w.output
 | [],_=>⟨rfl,rfl,rfl⟩
 | D :: Ds,w=>shut_os Ds _
theorem shut_other {x:Nat}:∀ (Ds:List Nat) (w:World),x ∉ Ds->(shut w Ds).heap[x]? = w.heap[x]?
 | [],_,_=>rfl
 | D :: Ds,w,h=>(shut_other Ds _ (fun h'=>h (List.mem_cons_of_mem _ h'))).trans (World.putObj_heap_other (fun e=>h (by simp [e])))
theorem shut_cell {Ds:List Nat} {w:World} (h:∀ D∈Ds,w.heap[D]? = some (.deferred (some []))) {b o:Nat} {v:Value} (hv:w.cell? ⟨b,o,none⟩=some v):(shut w Ds).cell? ⟨b,o,none⟩=some v:=by
 have hb:b ∉ Ds:=fun hb=>by
  have:=h b hb;simp [World.cell?,this] at hv
 rw [World.cell?_of_block (a:=⟨b,o,none⟩) (shut_other Ds w hb)];exact hv
theorem leaves_marks {P:Program} {fn:Func} {tmps:Array Value} {R:Ending->World->Prop}:∀ (Ds:List Nat) (w:World),Ds.Nodup->(∀ D∈Ds,w.heap[D]? = some (.deferred (some []))) ->
 (∃ v,(results fn tmps).run P (shut w Ds)=.ok v (shut w Ds)/\R (.returned v) (shut w Ds))->LeavesInM Fence.wide 0 P fn tmps R (Ds.map fun D=>{ target:=.collected D,args:=#[] }) .returning w
 | [],w,_,_,⟨v,h1,h2⟩=>⟨v,h1,h2⟩
 | D :: Ds,w,hn,hD,hr=>by
  refine ⟨by simp,.inl ⟨D,_,rfl,run_takeDeferred (hD D (by simp)),?_⟩⟩
  exact leaves_marks Ds _ (List.nodup_cons.1 hn).2 (fun E hE=>by
   rw [World.putObj_heap_other (fun e:E=D=>(List.nodup_cons.1 hn).1 (e ▸ hE))];exact hD E (List.mem_cons_of_mem _ hE)) hr
theorem SatW.shut {X:Cx} {φ:Fi} {κ:Ka} {f:Nat->Ct} {s:AS} {a:Act} {w:World} (h:SatW X φ κ f Ct.z s a w) (hdB:X.mks=true->X.w0.heap.size<=X.dB.1) (hus:X.dB.2=[]):∃ Ds:List Nat,a.defers=Ds.map (fun D=>{ target:=.collected D,args:=#[] })/\Ds.Nodup/\(X.mks=false->Ds=[])/\(∀ D∈Ds,w.heap[D]? = some (.deferred (some [])))/\SatW X φ κ f Ct.z s { a with defers:=[] } (shut w Ds):=by
 obtain ⟨hsz,Ds,h1,⟨h2,h2',-⟩,h3⟩:=h.df.df;rw [hus,List.append_nil] at h1;have hD:=fun D hD=>(h3 D hD).2.2
 have hc:∀ b,X.R b->∀ (o:Nat) (v:Value),w.cell? ⟨b,o,none⟩=some v->(Go.Proofs.YtnjllcnjcpfbhaaGreat.shut w Ds).cell? ⟨b,o,none⟩=some v:=fun b _ o v hv=>shut_cell hD hv
 have ho:∀ x,sumF f s.b.length x≠0->(Go.Proofs.YtnjllcnjcpfbhaaGreat.shut w Ds).heap[x]? = w.heap[x]?:=fun x hx=>shut_other Ds w fun hm=>by
  have:=(h.rd x (h3 x hm).2.1).2;simp only [Ct.z] at this;omega
 have hs:=shut_size Ds w;refine ⟨Ds,h1,h2,h2',hD,RC.keepC hc h.tm (fun b hb=>absurd rfl hb),⟨⟨by rw [hs];exact hsz,[],hus.symm,⟨List.nodup_nil,fun _=>rfl,fun _=>hus⟩,fun _ h=>by cases h⟩,h.df.yd⟩,fun i e he=>RS.keepC hc (h.sl i e he) fun x hx=>ho x ?_,h.one,fun x hx=>?_,fun x hx=>?_,?_,h.bas,h.new⟩
 ·have:=sumF_le f x _ i (List.getElem?_eq_some_iff.1 he).1;omega
 ·rw [hs];exact h.own x hx
 ·rw [hs];exact h.rd x hx
 ·have h0:=h.fr;obtain ⟨e1,e2,e3⟩:=shut_os Ds w
  exact ⟨e1.trans h0.os,e2.trans h0.tape,e3.trans h0.output,by rw [hs];exact h0.size,fun b hb hS=>(shut_other Ds w fun hm=>by
   have h4:=(h3 b hm).1
   cases hmk:X.mks with
   | true=>have:=hdB hmk;omega
   | false=>rw [h2' hmk] at hm;cases hm).trans (h0.block b hb hS)⟩
theorem AC.enter {fn:Nat} {F:Func} {c:Code} {nt:Nat} {args:List AV} {bs:List Bx} {Q:AV->List Bx->Prop} {b1:List Sl} (hf:prog.funcs[fn]? = some F) (hb:F.body=some c) (hname:(F.name == "runtime.NumGoroutine")=false) (hnt:F.ntmps=nt)
 (hfl:∀ x∈args,x.fl1) (hbk:Bk (List.replicate bs.length ⟨0,.o⟩) ((List.range bs.length).map fun i=>(i,0)) bs b1)
 (K:∀ X:Cx,X.ρ=none->X.mks=true->CP prog X c (RetQ F (bs.map Bx.isR) Q) ⟨(opnL args b1).1 ++ List.replicate (nt - args.length) (.tu []),(opnL args b1).2⟩):AC prog fn args bs Q:=by
 refine ⟨fun xs w=>?_,?_⟩
 ·have hn:¬ (F.name= "runtime.NumGoroutine"):=by simpa using hname
  simp [callFunc,hf,hn,hb,go_sem,program,Sem.run,Sem.run_bind]
 intro w φ κ R vs gs Sa Sb hr hrx hφ hφn hκn hone hown hR;have hgl:=hrx.length;have hvl:=hr.length;refine callsIn_wide.1 (callsIn_of_wp_marks (F:=Fence.wide) (n:=0) hf hb trivial ?_ rfl);rw [hnt];have hat:({ tmps:=vs.toArray ++ Array.replicate (nt - vs.toArray.size) undef,defers:=[] }:Act).tmps.toList=vs ++ List.replicate (nt - args.length) undef:=by simp [hvl]
 generalize hact:({ tmps:=vs.toArray ++ Array.replicate (nt - vs.toArray.size) undef,defers:=[] }:Act)=a at *
 have h0:SatW ⟨R,w,fun x=>Sa x + Sb x,[],φ,κ,none,false,(w.heap.size,[]),true⟩ φ κ (fun _=>Ct.z) (fun x=>Sa x + Sb x) ⟨List.replicate a.tmps.toList.length .de,List.replicate bs.length ⟨0,.o⟩⟩ a w:=
  { tm:=RC.des _
    df:=⟨⟨Nat.le_refl _,[],by rw [←hact];rfl,⟨List.nodup_nil,fun _=>rfl,fun _=>rfl⟩,fun _ h=>by cases h⟩,fun i u J hi=>by
     rw [List.getElem?_replicate] at hi;split at hi<;>cases hi⟩
    sl:=fun i e he=>by
     rw [List.getElem?_replicate] at he;split at he
     ·injection he with he;subst he;exact .o
     ·cases he
    one:=fun x=>by rw [sumF_z];have:=hone x;omega
    own:=fun x hx=>by rw [sumF_z] at hx;exact ⟨hown x (by omega),.inl (by show Sa x + Sb x≠0;omega)⟩
    rd:=fun x hx=>by rw [sumF_z];have:=hR x hx;exact ⟨this.1,by (try dsimp only);omega⟩
    fr:=Fr.refl _ _
    bas:=⟨fun _ _ h=>by simp at h,fun _ _ _ h=>h,fun _ _ _ h=>h⟩
    new:=fun i v hv=>by
     have hc:bs.length<=i\/0 < v:=by
      by_cases hi:i < bs.length
      ·have:=hv ⟨0,.o⟩ (by rw [List.getElem?_replicate,if_pos hi]);exact .inr this
      ·exact .inl (by omega)
     exact ⟨hφn i v hc,hκn i v hc⟩ }
 obtain ⟨φ1,κ1,f1,e1,e2,e3⟩:=SatW.bk hbk (L':=Sa) h0 hrx (fun x=>by (try dsimp only);omega) (fun i k u B hi hB=>by
  simp only [List.getElem?_map,Option.map_eq_some_iff] at hi;obtain ⟨j,hj,hjk⟩:=hi;obtain ⟨hlt,he⟩:=List.getElem?_eq_some_iff.1 hj;simp at hlt he;subst he
  injection hjk with e1 e2
  subst e1 e2;have hg:gs[i]? = some (gs[i]'(by omega)):=List.getElem?_eq_getElem (by omega);exact ⟨_,hg,hφ _ _ _ hg hB⟩)
 obtain ⟨φ2,κ2,f2,e4,e5,e6,e7⟩:=e3.opnL_ (L':=Ct.z) (RC.hist e1 e2 (fun _ h=>h) hr) (fun x=>by simp [Ct.z]) hfl
 have h1:Sat ⟨R,w,fun x=>Sa x + Sb x,[],φ,κ,none,false,(w.heap.size,[]),true⟩ ⟨(opnL args b1).1 ++ List.replicate (nt - args.length) (.tu []),(opnL args b1).2⟩ a w:=
  ⟨_,φ2,κ2,f2,.rfl,e7.retm (by rw [hat];exact e6.append (RC.und _) fun _=>rfl) rfl⟩
 refine wpIn_mono (K _ rfl rfl a w h1) ?_;rintro e a0 w0 ⟨s',⟨hE,rs,r1,b2,ks,r,bs',b3,hl,hcl,hout,hrn,hks,hkk,hQ⟩,X3,φ3,κ3,f3,hX3,h30⟩;obtain ⟨Ds,hDs,hnd,-,hDm,h3⟩:=h30.shut (fun _=>by rw [hX3.dB,(hX3.fx rfl).1];exact Nat.le_refl _) (by rw [hX3.dB]);generalize hw':shut w0 Ds=w' at h3;obtain ⟨v,hv,hrun⟩:=run_results h3 hl;obtain ⟨X4,S1,f4,hX4,h4,h5⟩:=SatW.clsR (t:=s'.t) hcl h3 hv;obtain ⟨X5,gs',Sb',f5,hX5,h6,h7,h8⟩:=SatW.out hout h5;have hX:=hX3.trans (hX4.trans hX5)
 have hφ'':∀ (i k u g:Nat),(mskK s'.b.length (bs.map Bx.isR) ks)[i]? = some (k,u)->φ3 k u=some g->(fun i v=>if v=0/\(bs'[i]?.map Bx.isR)=some false then gs'[i]? else none:Fi) i 0=some g:=fun i k u g hi hg=>by
  rcases mskK_at hi with ⟨rfl,rfl⟩|⟨hi,hns⟩
  ·have:=(h30.new s'.b.length 0 fun e he=>by simp at he).1;rw [hg] at this;cases this
  ·obtain ⟨g',B,h9,h9',h10⟩:=h8 i k u hi
   have hB:B.isR=false:=by
    by_cases hil:i < bs.length
    ·obtain ⟨B',h11,h12⟩:=kOk.old hkk (List.getElem?_eq_getElem hil);rw [h9'] at h11;injection h11 with h11;subst h11
     rw [h12];rw [List.getElem?_map,List.getElem?_eq_getElem hil] at hns
     simpa using hns
    ·exact kOk.fresh hkk (by omega) h9'
   replace h10:=h10.2 hB
   rw [hg] at h10;injection h10 with e;subst e
   simp [h9,h9',hB]
 have hr':=RnV.fro (φ':=fun i v=>if v=0/\(bs'[i]?.map Bx.isR)=some false then gs'[i]? else none) hφ'' (fun _ _=>none) hrn (RV.hist (fun _ _ _ h=>h) (fun _ _ _ h=>h) hX5.up h4);have hup:∀ x,X5.R x->R x\/(X5.R x/\¬ R x):=fun x hx=>(Classical.em (R x)).imp id fun h=>⟨hx,h⟩
 have hpost:∃ v_1 r bs' gs' Sr Sb' φ',∃ F:Nat->Prop,Ending.returned v=Ending.returned v_1/\Q r bs'/\RV w' φ' (fun _ _=>none) (fun x=>R x\/F x) r v_1 Sr/\RXs w' (fun x=>R x\/F x) bs' gs' Sb' /\
  (∀ (i g:Nat),φ' i 0=some g->gs'[i]? = some g/\∃ B,bs'[i]? = some B/\B.isR=false)/\((∀ (i g:Nat),gs[i]? = some g->gs'[i]? = some g)/\kOk (bs.map Bx.isR) bs'=true) /\
  (∀ x,Sr x + Sb' x<=1)/\(∀ x,Sr x + Sb' x≠0\/F x->x < w'.heap.size/\(Sa x + Sb x≠0\/w.heap.size<=x))/\(∀ x,F x->Sr x + Sb' x=0)/\Fr w w' (fun x=>Sa x + Sb x):=by
  obtain ⟨hw0,hS0,hdn⟩:=hX.fx rfl;refine ⟨v,r,bs',gs',S1,Sb',_,fun x=>X5.R x/\¬ R x,rfl,hQ,RV.hist (fun _ _ _ h=>h) (fun _ _ _ h=>h) hup hr',RXs.mono hup h6,fun i g hi=>?_,⟨fun i g hi=>?_,hkk⟩,fun x=>?_,fun x hx=>?_,fun x hx=>?_,?_⟩
  ·split at hi
   ·rename_i hc
    obtain ⟨B,h9,h10⟩:=Option.map_eq_some_iff.1 hc.2;exact ⟨hi,B,h9,h10⟩
   ·cases hi
  ·have hil:i < bs.length:=by have:=(List.getElem?_eq_some_iff.1 hi).1;omega
   obtain ⟨g',B',h9,h9',h10⟩:=h8 i i 0 (hks i (by simpa using hil));obtain ⟨B2,h11,h12⟩:=kOk.old hkk (List.getElem?_eq_getElem hil);rw [h9'] at h11;injection h11 with h11;subst h11
   have h13:=(hφ i g _ hi (List.getElem?_eq_getElem hil)).hist (fun b u g hb=>h3.bas.2.1 b u g (by rw [hX3.p0];exact hb)) (fun b u v hb=>h3.bas.2.2 b u v (by rw [hX3.q0];exact hb));rw [h13.uniq h12 h10];exact h9
  ·have:=h7.one x;simp only [Ct.z] at this;omega
  ·rcases hx with hx|⟨hx,hn⟩
   ·have:=h7.own x (by simp only [Ct.z];omega);rw [hS0,hw0] at this;exact this
   ·exact ⟨(h7.rd x hx).1,(hdn x hx).resolve_left hn⟩
  ·have:=(h7.rd x hx.1).2;simp only [Ct.z] at this;omega
  ·have:=h7.fr;rw [hS0,hw0] at this;exact this
 have hfin:∀ R:Ending->World->Prop,R (.returned v) w'->LeavesInM Fence.wide 0 prog F a0.tmps R a0.defers .returning w0:=fun R hR=>by
  rw [hDs];refine leaves_marks Ds w0 hnd hDm ⟨v,?_,?_⟩
  ·rw [hw'];exact hrun
  ·rw [hw'];exact hR
 rcases hE with rfl|rfl
 ·exact hfin _ hpost
 ·exact hfin _ hpost
theorem RetQ.mk {F:Func} {n:List Bool} {Q:AV->List Bx->Prop} {s:AS} {e:Exit} {vs:List AV} {r1 r:AV} {b1 b2:List Sl} {ks:List (Nat×Nat)} {bs':List Bx} (he:e=.normal\/e=.ret) (hq:Q r bs') (hr:RnV (mskK s.b.length n ks) r r1) (hl:ResL s F.results.toList vs) (hc:ClsR s.b (resV vs) r1 b1) (ho:Out b1 ks bs' b2)
 (hk:∀ i,i < n.length->ks[i]? = some (i,0)) (hkk:kOk n bs'=true):RetQ F n Q e s:=⟨he,vs,r1,b1,ks,r,bs',b2,hl,hc,ho,hr,hk,hkk,hq⟩
section
variable {v:Value} {k b u off i n:Nat} {o:Option TypeId} {e:TypeId} {s s':List (List AV)} {l m:List AV} {t:List Sl} {T:TypeId} {a:AV} {p:Bool}
theorem oc_nil:opnC [] t=([],t):=rfl
theorem oc_sc:opnC (.sc v :: l) t=(.sc v :: (opnC l t).1,(opnC l t).2):=rfl
theorem oc_sl:opnC (.sl none k s :: l) t=(.sl none k s :: (opnC l t).1,(opnC l t).2):=rfl
theorem oc_tr:opnC (.sl (some e) k s :: l) t=((.hd (newS t (.r e k s)).1.1 (newS t (.r e k s)).1.2) :: (opnC l (newS t (.r e k s)).2).1,(opnC l (newS t (.r e k s)).2).2):=rfl
theorem oc_bp:opnC (.bp b u off :: l) t=(.bp b u off :: (opnC l t).1,(opnC l t).2):=rfl
theorem oc_de:opnC (.de :: l) t=(.de :: (opnC l t).1,(opnC l t).2):=rfl
theorem ov_sc:opnV (.sc v) t=(.sc v,t):=rfl
theorem ov_sl:opnV (.sl none k s) t=(.sl none k s,t):=rfl
theorem ov_tr:opnV (.sl (some e) k s) t=(.hd (newS t (.r e k s)).1.1 (newS t (.r e k s)).1.2,(newS t (.r e k s)).2):=rfl
theorem ov_hd:opnV (.hd b u) t=(.hd b u,t):=rfl
theorem ov_bp:opnV (.bp b u off) t=(.bp b u off,t):=rfl
theorem ov_de:opnV .de t=(.de,t):=rfl
theorem ov_fn {f:Nat}:opnV (.fn f l) t=(.fn f l,t):=rfl
theorem oc_fn {f:Nat}:opnC (.fn f m :: l) t=(.fn f m :: (opnC l t).1,(opnC l t).2):=rfl
theorem or_fn {f:Nat}:opnR (.fn f l) t=(.fn f l,t):=rfl
theorem ov_ag:opnV (.ag l) t=(.ag (opnC l t).1,(opnC l t).2):=rfl
theorem ol_nil:opnL [] t=([],t):=rfl
theorem ol_cons:opnL (a :: l) t=((opnV a t).1 :: (opnL l (opnV a t).2).1,(opnL l (opnV a t).2).2):=rfl
theorem or_sc:opnR (.sc v) t=(.sc v,t):=rfl
theorem or_sl:opnR (.sl none k s) t=(.sl none k s,t):=rfl
theorem or_tr:opnR (.sl (some e) k s) t=(.hd (newS t (.r e k s)).1.1 (newS t (.r e k s)).1.2,(newS t (.r e k s)).2):=rfl
theorem or_bp:opnR (.bp b u off) t=(.bp b u off,t):=rfl
theorem or_de:opnR .de t=(.de,t):=rfl
theorem or_ag:opnR (.ag l) t=(.ag (opnC l t).1,(opnC l t).2):=rfl
theorem or_tu:opnR (.tu l) t=(.tu (opnL l t).1,(opnL l t).2):=rfl
theorem fx_nil:findX [] n=none:=rfl
theorem fx_x:findX (⟨u,.x⟩ :: t) n=some (n,u):=rfl
theorem fx_c:findX (⟨u,.c T l⟩ :: t) n=findX t (n + 1):=rfl
theorem fx_r:findX (⟨u,.r e k s⟩ :: t) n=findX t (n + 1):=rfl
theorem fx_o:findX (⟨u,.o⟩ :: t) n=findX t (n + 1):=rfl
theorem fx_f {c:List AV}:findX (⟨u,.f e k s i c⟩ :: t) n=findX t (n + 1):=rfl
theorem fx_m {ks:List Value} {o:Option (Nat×List AV)} {st:Option (Nat×Nat×Nat)}:findX (⟨u,.m ks s o st⟩ :: t) n=findX t (n + 1):=rfl
theorem fx_w:findX (⟨u,.w e l⟩ :: t) n=findX t (n + 1):=rfl
theorem oc_ob:opnC (.ob T m :: l) t=((.bp (newS (opnC m t).2 (.c T (opnC m t).1)).1.1 (newS (opnC m t).2 (.c T (opnC m t).1)).1.2 0) :: (opnC l (newS (opnC m t).2 (.c T (opnC m t).1)).2).1,(opnC l (newS (opnC m t).2 (.c T (opnC m t).1)).2).2):=rfl
theorem oc_mo {ks:List Value}:opnC (.mo ks s :: l) t=((.hd (newS t (.m ks s none none)).1.1 (newS t (.m ks s none none)).1.2) :: (opnC l (newS t (.m ks s none none)).2).1,(opnC l (newS t (.m ks s none none)).2).2):=rfl
theorem ov_ob:opnV (.ob T m) t=((.bp (newS (opnC m t).2 (.c T (opnC m t).1)).1.1 (newS (opnC m t).2 (.c T (opnC m t).1)).1.2 0),(newS (opnC m t).2 (.c T (opnC m t).1)).2):=rfl
theorem ov_mo {ks:List Value}:opnV (.mo ks s) t=((.hd (newS t (.m ks s none none)).1.1 (newS t (.m ks s none none)).1.2),(newS t (.m ks s none none)).2):=rfl
theorem or_ob:opnR (.ob T m) t=((.bp (newS (opnC m t).2 (.c T (opnC m t).1)).1.1 (newS (opnC m t).2 (.c T (opnC m t).1)).1.2 0),(newS (opnC m t).2 (.c T (opnC m t).1)).2):=rfl
theorem or_mo {ks:List Value}:opnR (.mo ks s) t=((.hd (newS t (.m ks s none none)).1.1 (newS t (.m ks s none none)).1.2),(newS t (.m ks s none none)).2):=rfl
theorem ac_ag:(AV.ag l).cells=l:=rfl
theorem ac_sc:(AV.sc v).cells=[.sc v]:=rfl
theorem ac_sl:(AV.sl o k s).cells=[.sl o k s]:=rfl
theorem ac_hd:(AV.hd b u).cells=[.hd b u]:=rfl
theorem ac_fn {f:Nat}:(AV.fn f l).cells=[.fn f l]:=rfl
theorem ae_f {s:AS} {f:Nat}:aev s (.func f)=.fn f []:=rfl
theorem ac_sb {o c:Nat}:(AV.sb b u k o n c).cells=[.sb b u k o n c]:=rfl
theorem ac_bp:(AV.bp b u off).cells=[.bp b u off]:=rfl
theorem ae_t {s:AS} {t:Tmp}:aev s (.tmp t)=s.t.getD t .de:=rfl
theorem ae_i {s:AS} {k:IntKind} {x:Int}:aev s (.const (.int k x))=.sc (.int k x):=rfl
theorem ae_b {s:AS} {x:Bool}:aev s (.const (.bool x))=.sc (.bool x):=rfl
theorem ae_s {s:AS} {x:ByteArray}:aev s (.const (.string x))=.sc (.string x):=rfl
theorem ae_l {s:AS} {x:Option Addr} {n c:Nat}:aev s (.const (.slice x n c))=.sc (.slice x n c):=rfl
theorem ae_p {s:AS} {x:Option Addr}:aev s (.const (.pointer x))=.sc (.pointer x):=rfl
theorem ap_some {s:AS} {d:Nat}:s.put (some d) a=⟨s.t.set d a,s.b⟩:=rfl
theorem ap_none {s:AS}:s.put none a=s:=rfl
end
section
variable {X:Cx} {φ:Fi} {κ:Ka} {f:Nat->Ct} {L:Ct} {s:AS} {a:Act} {w w':World} {o:Oper} {av:AV}
theorem run_len {x:Operand} {ty:TypeId} {tys:Array TypeId} {a:Act} {v:Value} (ho:o.op=.call { callee:=.builtin .len,args:=#[x],argTypes:=tys }) (h:∀ ty,(Builtin.len_ tys ty #[a.eval x]).run prog w=.ok v w) :
 (execOp a.eval o).run prog w=.ok (.value v) w:=by
 simp only [execOp,ho,resolve,invoke,builtin,Sem.run_bind,Sem.run_pure,Result.andThen_ok,List.map_toArray,List.map_cons,List.map_nil,h]
theorem len_ty {tys:Array TypeId} {A:Option Addr} {n c:Nat} {T e:TypeId} {i:TI} (hT:tt[T]? = some i) (hk:i.kd=.sl e) (ty:TypeId) (w:World):(Builtin.len_ #[T] ty #[.slice A n c]).run prog w=.ok (.int .i64 n) w:=by
 simp [Builtin.len_,run_underlying (ty_sl hT hk),goInt,go_sem]
theorem RV.sl_form {R:Nat->Prop} {oo:Option TypeId} {k:Nat} {s':List (List AV)} {v:Value} {S:Ct} (h:RV w φ κ R (.sl oo k s') v S):∃ A c,v=.slice A s'.length c/\s'.length<=c/\c<=maxLen/\(A=none->c=0):=by
 cases h with
 | ni=>exact ⟨none,0,rfl,Nat.le_refl _,Nat.zero_le _,fun _=>rfl⟩
 | ne=>exact ⟨_,0,rfl,Nat.le_refl _,Nat.zero_le _,fun e=>by cases e⟩
 | ro _ h1 h2 _ _=>exact ⟨_,_,rfl,h1,h2,fun e=>by cases e⟩
 | om _ _ h1 h2 _ _ _=>exact ⟨_,_,rfl,h1,h2,fun e=>by cases e⟩
theorem pq_len_ro {T e k:Nat} {x:Operand} {oo:Option TypeId} {s':List (List AV)} {i:TI} (ho:o.op=.call { callee:=.builtin .len,args:=#[x],argTypes:=#[T] }) (hx:aev s x=.sl oo k s') (hT:tt[T]? = some i) (hk:i.kd=.sl e):Pq prog X s o (.sc (.int .i64 s'.length)):=.of_run fun X φ κ f a w h=>by
 obtain ⟨A,c,hv,_⟩:=(h.evs hx).sl_form;exact ⟨_,.sc rfl,fun w' _=>run_len (ty:=0) ho fun ty=>by rw [hv];exact len_ty (tys:=#[T]) hT hk ty w'⟩
theorem pq_len_nil {T e:Nat} {x:Operand} {i:TI} (ho:o.op=.call { callee:=.builtin .len,args:=#[x],argTypes:=#[T] }) (hx:aev s x=.sc (.slice none 0 0)) (hT:tt[T]? = some i) (hk:i.kd=.sl e):Pq prog X s o (.sc (.int .i64 0)):=.of_run fun X φ κ f a w h=>by
 have h1:=h.evc hx;exact ⟨_,.sc rfl,fun w' _=>run_len (ty:=0) ho fun ty=>by rw [h1];exact len_ty (tys:=#[T]) hT hk ty w'⟩
theorem SatW.hdv (h:SatW X φ κ f L s a w) {x:Operand} {b u e k:Nat} {s':List (List AV)} (hx:aev s x=.hd b u) (hs:s.b[b]? = some ⟨u,.r e k s'⟩):RV w φ κ X.R (.sl (some e) k s') (a.eval x) (f b):=by
 have h1:=h.evs hx;have h2:=h.sl b _ hs;generalize a.eval x=p at h1
 cases h1 with
 | hd hκ _=>
  cases h2 with
  | r hκ' hv=>rw [hκ] at hκ';injection hκ' with e;subst e;exact hv
theorem pq_len_hd {T e e' k b u:Nat} {x:Operand} {s':List (List AV)} {i:TI} (ho:o.op=.call { callee:=.builtin .len,args:=#[x],argTypes:=#[T] }) (hx:aev s x=.hd b u) (hs:s.b[b]? = some ⟨u,.r e' k s'⟩) (hT:tt[T]? = some i) (hk:i.kd=.sl e):Pq prog X s o (.sc (.int .i64 s'.length)):=.of_run fun X φ κ f a w h=>by
 obtain ⟨A,c,hv,_⟩:=(h.hdv hx hs).sl_form;exact ⟨_,.sc rfl,fun w' _=>run_len (ty:=0) ho fun ty=>by rw [hv];exact len_ty (tys:=#[T]) hT hk ty w'⟩
theorem pq_len_fs {T e k:Nat} {x:Operand} {s':List (List AV)} {i:TI} (ho:o.op=.call { callee:=.builtin .len,args:=#[x],argTypes:=#[T] }) (hx:aev s x=.fs k s') (hT:tt[T]? = some i) (hk:i.kd=.sl e):Pq prog X s o (.sc (.int .i64 s'.length)):=.of_run fun X φ κ f a w h=>by
 have h1:=h.evs hx;generalize hp:a.eval x=p at h1
 cases h1 with
 | fs _ h2=>
  obtain ⟨A,rfl⟩:=h2;exact ⟨_,.sc rfl,fun w' _=>run_len (ty:=0) ho fun ty=>by rw [hp];exact len_ty (tys:=#[T]) hT hk ty w'⟩
theorem pq_len_str {T:Nat} {x:Operand} {b:ByteArray} {i:TI} (ho:o.op=.call { callee:=.builtin .len,args:=#[x],argTypes:=#[T] }) (hx:aev s x=.sc (.string b)) (hT:tt[T]? = some i) (hk:i.kd=.sr):Pq prog X s o (.sc (.int .i64 b.size)):=.of_run fun X φ κ f a w h=>by
 have h1:=h.evc hx;exact ⟨_,.sc rfl,fun w' _=>run_len (ty:=0) ho fun ty=>by rw [h1];simp [Builtin.len_,run_underlying (ty_sr hT hk),goInt,go_sem]⟩
theorem RE.piece {R:Nat->Prop} {k:Nat} {s':List (List AV)} {us:List Value} (h:RE w φ κ R k s' us Ct.z) (lo n:Nat):RE w φ κ R k ((s'.drop lo).take n) ((us.drop (lo * k)).take (n * k)) Ct.z:=by
 induction s' generalizing us lo n with
 | nil=>cases h;simp;exact .nil
 | cons c s' ih=>
  cases h with
  | @cons _ _ _ us vs S T _ h1 h2 o h3 h4=>
   obtain ⟨rfl,rfl⟩:=Ct.split h4
   cases lo with
   | succ lo=>
    have e:(us ++ vs).drop ((lo + 1) * k)=vs.drop (lo * k):=by
     rw [Nat.add_mul,List.drop_append,List.drop_eq_nil_of_le (by omega),List.nil_append];congr 1;omega
    rw [e];exact ih h3 lo n
   | zero=>
    cases n with
    | zero=>simp;exact .nil
    | succ n=>
     have e:((us ++ vs).drop (0 * k)).take ((n + 1) * k)=us ++ (vs.drop (0 * k)).take (n * k):=by
      simp only [Nat.zero_mul,List.drop_zero];rw [List.take_append,List.take_of_length_le (by rw [Nat.add_mul];omega)]
      congr 2;rw [h2,Nat.add_mul];omega
     rw [e];exact .cons (S:=Ct.z) (T:=Ct.z) h1 h2 o (ih h3 0 n) fun _=>rfl
theorem run_slice {T e:TypeId} {i ie:TI} {A:Option Addr} {n c l h m:Nat} {lo hi mx:Option Value} (hT:tt[T]? = some i) (hk:i.kd=.sl e) (he:tt[e]? = some ie) (hb:∀ w,(Instr.sliceBounds true n c lo hi mx).run prog w=.ok (l,h,m) w) (w:World) :
 (Instr.sliceAt T (.slice A n c) lo hi mx).run prog w=.ok (.slice (if m=l then A else A.map (·.add (l * ie.size))) (h - l) (m - l)) w:=by
 have hu:=ty_sl hT hk;simp only [Instr.sliceAt,Instr.slice,Sem.run_bind,run_underlying hu,Result.andThen_ok,hb,ty_size he];rfl
theorem run_bounds {n c l h m:Nat} {lo hi mx:Option Value} (hlo:lo=none/\l=0\/∃ k,lo=some (.int k l)) (hhi:hi=none/\mx=none/\h=n\/∃ k,hi=some (.int k h)) (hmx:mx=none/\m=c\/∃ k,mx=some (.int k m)) (h1:l<=h) (h2:h<=m) (h3:m<=c) (w:World) :
 (Instr.sliceBounds true n c lo hi mx).run prog w=.ok (l,h,m) w:=by
 have hb:∀ (k:IntKind) (x y:Nat) (code:BoundsCode),x<=y->(Instr.sliceBound (.int k x) y code).run prog w=.ok x w:=by
  intro k x y code hxy;simp [Instr.sliceBound,asIntOf,hxy,go_sem]
 rcases hmx with ⟨rfl,rfl⟩|⟨km,rfl⟩<;>rcases hhi with ⟨rfl,e2,rfl⟩|⟨kh,rfl⟩<;>rcases hlo with ⟨rfl,rfl⟩|⟨kl,rfl⟩
 all_goals first
  | (cases e2;done)
  | skip
 all_goals (unfold Instr.sliceBounds;simp only [Sem.run_bind,hb _ _ _ _ h1,hb _ _ _ _ h2,hb _ _ _ _ h3,Result.andThen_ok,Sem.run_pure];first|rfl|skip)
inductive Bd (s:AS):Option Operand->Nat->Nat->Prop
 | no {d}:Bd s none d d
 | int {x k d j}:aev s x=.sc (.int k (j:Nat))->Bd s (some x) d j
 | lit {x k d} {j:Nat} {z:Int}:aev s x=.sc (.int k z)->z=j->Bd s (some x) d j
theorem Bd.lo {s:AS} {h0:SatW X φ κ f L s a w} {x:Option Operand} {d l:Nat} (h:Bd s x d l):x.map a.eval=none/\l=d\/∃ k,x.map a.eval=some (.int k l):=by
 cases h with
 | no=>exact .inl ⟨rfl,rfl⟩
 | int hx=>exact .inr ⟨_,by rw [Option.map_some,h0.evc hx]⟩
 | lit hx hz=>subst hz;exact .inr ⟨_,by rw [Option.map_some,h0.evc hx]⟩
theorem RV.piece {R:Nat->Prop} {k l h m c:Nat} {s':List (List AV)} {A:Option Addr} (hv:RV w φ κ R (.sl none k s') (.slice A s'.length c) Ct.z) (h1:l<=h) (h2:h<=s'.length) (hm1:h<=m) (hm2:m<=c) :
 RV w φ κ R (.sl none k ((s'.drop l).take (h - l))) (.slice (if m=l then A else A.map (·.add (l * k))) (h - l) (m - l)) Ct.z:=by
 generalize hnn:s'.length=nn at hv
 cases hv with
 | ni=>
  simp at h2;subst h2;have:l=0:=by omega
  subst this;have:m=0:=by omega
  subst this;simp;exact .ni
 | ne=>
  simp at h2;subst h2;have:l=0:=by omega
  subst this;have:m=0:=by omega
  subst this;simp;exact .ne
 | @ro _ _ b oo _ us hre hle hm hR hcell=>
  have hlen:((s'.drop l).take (h - l)).length=h - l:=by simp;omega
  have key:∀ oo',((s'.drop l).take (h - l)≠[]->oo'=oo + l * k)->RV w φ κ R (.sl none k ((s'.drop l).take (h - l))) (.slice (some ⟨b,oo',none⟩) ((s'.drop l).take (h - l)).length (m - l)) Ct.z:=by
   intro oo' hoo;refine .ro (hre.piece l (h - l)) (by rw [hlen];omega) (by omega) (fun hne=>hR ?_) fun j u hj=>?_
   ·rintro rfl;simp at hne
   ·have hne:(s'.drop l).take (h - l)≠[]:=by
     intro e0;have h9:=(hre.piece l (h - l)).length;rw [e0] at h9;have h10:=(List.getElem?_eq_some_iff.1 hj).1;rw [h9] at h10;simp at h10
    rw [hoo hne];rw [List.getElem?_take] at hj;split at hj
    ·rw [List.getElem?_drop] at hj;have:=hcell _ _ hj
     rwa [show oo + l * k + j=oo + (l * k + j) by omega]
    ·cases hj
  by_cases hcl:m=l
  ·rw [if_pos hcl];have h3:h=l:=by omega
   have:=key oo (fun hne=>absurd (by simp [h3]) hne)
   rwa [hlen] at this
  ·rw [if_neg hcl];simp only [Option.map_some,addr_mid];have:=key (oo + l * k) fun _=>rfl
   rwa [hlen] at this
theorem pq_slice_ro {T e k l h:Nat} {x:Operand} {lo hi:Option Operand} {s':List (List AV)} {i ie:TI} (ho:o.op=.slice T x lo hi none) (hx:aev s x=.sl none k s') (hT:tt[T]? = some i) (hk:i.kd=.sl e) (he:tt[e]? = some ie) (hsz:ie.size=k)
 (hlo:Bd s lo 0 l) (hhi:Bd s hi s'.length h) (h1:l<=h) (h2:h<=s'.length):Pq prog X s o (.sl none k ((s'.drop l).take (h - l))):=.of_run fun X φ κ f a w hs=>by
 have hv:=hs.evs hx;obtain ⟨A,c,hA,hc1,hc2,hc3⟩:=hv.sl_form;rw [hA] at hv
 have hb:=fun w=>run_bounds (n:=s'.length) (c:=c) (l:=l) (h:=h) (m:=c) (lo:=lo.map a.eval) (hi:=hi.map a.eval) (mx:=none) (by simpa using Bd.lo (h0:=hs) hlo) (by
  rcases Bd.lo (h0:=hs) hhi with ⟨e1,e2⟩|e1
  ·exact .inl ⟨e1,rfl,e2⟩
  ·exact .inr e1) (.inl ⟨rfl,rfl⟩) h1 (by omega) (Nat.le_refl _) w
 refine ⟨_,hv.piece h1 h2 (by omega) (Nat.le_refl c),fun w' _=>?_⟩;have:=run_slice (A:=A) (n:=s'.length) (c:=c) (l:=l) (h:=h) (m:=c) (lo:=lo.map a.eval) (hi:=hi.map a.eval) (mx:=none) hT hk he hb w';simp only [execOp,ho,hA,Option.map_none,Sem.run_bind,this,hsz];rfl
theorem pq_slice_fs {T e k l h:Nat} {x hi mx:Operand} {lo:Option Operand} {s':List (List AV)} {i ie:TI} (ho:o.op=.slice T x lo (some hi) (some mx)) (hx:aev s x=.sl none k s') (hT:tt[T]? = some i) (hk:i.kd=.sl e) (he:tt[e]? = some ie) (hsz:ie.size=k)
 (hlo:Bd s lo 0 l) (hhi:Bd s (some hi) 0 h) (hmx:Bd s (some mx) 0 h) (h1:l<=h) (h2:h<=s'.length):Pq prog X s o (.fs k ((s'.drop l).take (h - l))):=.of_run fun X φ κ f a w hs=>by
 have hv:=hs.evs hx;obtain ⟨A,c,hA,hc1,hc2,hc3⟩:=hv.sl_form;rw [hA] at hv
 have some_:∀ {y:Operand} {d:Nat},Bd s (some y) 0 d->∃ k,(some y).map a.eval=some (.int k d):=fun hb=>by
  cases hb with
  | int hx=>exact ⟨_,by rw [Option.map_some,hs.evc hx]⟩
  | lit hx hz=>subst hz;exact ⟨_,by rw [Option.map_some,hs.evc hx]⟩
 have hb:=fun w=>run_bounds (n:=s'.length) (c:=c) (l:=l) (h:=h) (m:=h) (lo:=lo.map a.eval) (hi:=(some hi).map a.eval) (mx:=(some mx).map a.eval) (by simpa using Bd.lo (h0:=hs) hlo) (.inr (some_ hhi)) (.inr (some_ hmx)) h1 (Nat.le_refl _) (by omega) w
 have hlen:((s'.drop l).take (h - l)).length=h - l:=by simp;omega
 refine ⟨_,.fs (hv.piece h1 h2 (Nat.le_refl h) (by omega)) ⟨_,by rw [hlen]⟩,fun w' _=>?_⟩;have:=run_slice (A:=A) (n:=s'.length) (c:=c) (l:=l) (h:=h) (m:=h) (lo:=lo.map a.eval) (hi:=(some hi).map a.eval) (mx:=(some mx).map a.eval) hT hk he hb w';simp only [execOp,ho,hA,Sem.run_bind,this,hsz];rfl
end
