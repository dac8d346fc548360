/- Parts. -/
import Derived.Test.YtnjllcnjcpfbhaaGreatZS1
import Derived.Maps.AppendAt
import Derived.ArgAppend
import Derived.Deep.RegionLawGrows
import Derived.Laws.StructEq
import Derived.IntWalk
import Derived.Laws.MakeOwn
import Derived.LoopNIn
namespace Go.Proofs.YtnjllcnjcpfbhaaGreat
set_option linter.unusedVariables false
set_option linter.unusedSimpArgs false
open Go.RowKit Tryz
set_option maxRecDepth 100000
set_option maxHeartbeats 8000000
theorem A2 {a b:Prop} (x:a) (y:b):a/\b:=⟨x,y⟩
def chunks (k:Nat):Nat->List AV->List (List AV)
 | 0,_=>[]
 | n + 1,l=>l.take k :: chunks k n (l.drop k)
def zrow (z:List ZC):Nat->List AV
 | 0=>[]
 | n + 1=>z.map (fun c=>AV.sc c.val) ++ zrow z n
def bldA (s:AS) (k:Nat):List (Nat×Operand)->List AV->List AV
 | [],l=>l
 | (i,x) :: r,l=>bldA s k r (spl l (i * k) (aev s x).cells)
section
variable {X:Cx} {φ φ':Fi} {κ κ':Ka} {f:Nat->Ct} {L L':Ct} {s:AS} {a:Act} {w w':World} {R:Nat->Prop}
theorem RE.chunks_ {k:Nat} (hk:0 < k):∀ (n:Nat) {l:List AV} {us:List Value} {S:Ct},RC w φ κ R l us S->l.length=n * k->(∀ u∈us,u.oneCell'=true)->(∀ x∈l,x.leaf=true)->RE w φ κ R k (chunks k n l) us S
 | 0,l,us,S,h,hl,_,_=>by
  have:l=[]:=List.eq_nil_of_length_eq_zero (by simpa using hl);subst this;cases h;exact .nil
 | n + 1,l,us,S,h,hl,ho,hlf=>by
  have split:∀ (k:Nat) {l:List AV} {us:List Value} {S:Ct},RC w φ κ R l us S->∃ S1 S2,RC w φ κ R (l.take k) (us.take k) S1/\RC w φ κ R (l.drop k) (us.drop k) S2/\∀ x,S x=S1 x + S2 x:=by
   intro k
   induction k with
   | zero=>intro l us S h;exact ⟨Ct.z,S,by simpa using RC.nil,by simpa using h,fun x=>by simp [Ct.z]⟩
   | succ k ih=>
    intro l us S h
    cases h with
    | nil=>exact ⟨Ct.z,Ct.z,by simpa using RC.nil,by simpa using RC.nil,fun x=>rfl⟩
    | cons h1 h2 h3=>
     obtain ⟨S1,S2,e1,e2,e3⟩:=ih h2;exact ⟨_,S2,.cons h1 e1 fun _=>rfl,e2,fun x=>by rw [h3,e3];(try dsimp only);omega⟩
  obtain ⟨S1,S2,e1,e2,e3⟩:=split k h;have hlen:=h.length;have h1:(us.take k).length=k:=by rw [List.length_take,hlen,hl,Nat.add_mul];omega
  have h2:(l.drop k).length=n * k:=by rw [List.length_drop,hl,Nat.add_mul];omega
  have:=RE.cons e1 h1 ⟨fun u hu=>ho u (List.mem_of_mem_take hu),fun x hx=>hlf x (List.mem_of_mem_take hx)⟩ (RE.chunks_ hk n e2 h2 (fun u hu=>ho u (List.mem_of_mem_drop hu)) fun x hx=>hlf x (List.mem_of_mem_drop hx)) e3
  rwa [List.take_append_drop] at this
theorem zrow_at {z:List ZC} (hz:0 < z.length):∀ (n i:Nat),i < n * z.length->(zrow z n)[i]? = some (.sc (z[i % z.length]'(Nat.mod_lt _ hz)).val)
 | 0,i,h=>by simp at h
 | n + 1,i,h=>by
  by_cases hi:i < z.length
  ·rw [zrow,List.getElem?_append_left (by simpa using hi)];simp [Nat.mod_eq_of_lt hi,List.getElem?_eq_getElem hi]
  ·rw [zrow,List.getElem?_append_right (by simp;omega)];rw [List.length_map,zrow_at hz n (i - z.length) (by rw [Nat.add_mul] at h;omega)]
   congr 3
   have:=Nat.mod_eq_sub_mod (Nat.le_of_not_lt hi);simp only [this]
theorem zrow_length (z:List ZC):∀ n,(zrow z n).length=n * z.length
 | 0=>by simp [zrow]
 | n + 1=>by simp [zrow,zrow_length z n,Nat.add_mul,Nat.add_comm]
theorem chunks_length (k:Nat):∀ (n:Nat) (l:List AV),(chunks k n l).length=n
 | 0,_=>rfl
 | n + 1,l=>by simp [chunks,chunks_length k n]
theorem ZC.one (c:ZC):c.val.oneCell'=true:=by cases c<;>rfl
theorem foldl_spl:∀ (us:List Value) (j off:Nat) (cs:Array Value),(us.zipIdx j).foldl (fun (cs:Array Value) (p:Value×Nat)=>cs.setIfInBounds (off + p.2) p.1) cs=(spl cs.toList (off + j) us).toArray
 | [],j,off,cs=>by simp [spl]
 | u :: us,j,off,cs=>by
  simp only [List.zipIdx_cons,List.foldl_cons,spl];rw [foldl_spl us (j + 1) off];simp [Nat.add_assoc]
theorem fill_spl {size:Nat}:∀ (parts:List (Nat×Value)) (cs:Array Value),(∀ p∈parts,p.2.cells.size=size/\p.1 * size + size<=cs.size) ->
 Instr.fill (fun i=>some (i * size,size)) cs parts=some (parts.foldl (fun (l:List Value) p=>spl l (p.1 * size) p.2.cells.toList) cs.toList).toArray
 | [],cs,_=>by simp [Instr.fill]
 | (i,v) :: r,cs,h=>by
  have h1:=h (i,v) (by simp);simp only at h1
  have e:v.cells.zipIdx.foldl (fun cs (p:Value×Nat)=>cs.setIfInBounds (i * size + p.2) p.1) cs=(spl cs.toList (i * size) v.cells.toList).toArray:=by
   have:=foldl_spl v.cells.toList 0 (i * size) cs;rw [←Array.foldl_toList,Array.toList_zipIdx]
   simpa using this
  rw [Instr.fill];simp only [h1.1,ne_eq,not_true_eq_false,decide_false,Bool.false_or];rw [if_neg (by simp;omega)];rw [show (v.cells.zipIdx.foldl (fun cs x=>match x with|(c,j)=>cs.setIfInBounds (i * size + j) c) cs)=v.cells.zipIdx.foldl (fun cs (p:Value×Nat)=>cs.setIfInBounds (i * size + p.2) p.1) cs from rfl,e]
  rw [fill_spl r _ (fun p hp=>by
   have:=h p (List.mem_cons_of_mem _ hp);refine ⟨this.1,?_⟩;simp [spl_length];omega)]
  simp
variable {ops:Array Oper} {rest:List Oper} {o:Oper} {av:AV} {Q:Exit->AS->Prop}
theorem bld_rc {k:Nat}:∀ (ps:List (Nat×Operand)) {l:List AV} {vs:List Value},SatW X φ κ f L s a w->RC w φ κ X.R l vs Ct.z->(∀ p∈ps,(aev s p.2).known=true) ->
 RC w φ κ X.R (bldA s k ps l) ((ps.map fun p=>(p.1,a.eval p.2)).foldl (fun (l:List Value) p=>spl l (p.1 * k) p.2.cells.toList) vs) Ct.z
 | [],l,vs,_,hr,_=>hr
 | (i,x) :: r,l,vs,h,hr,hk=>by
  obtain ⟨h1,_⟩:=(h.ev x).cells_ (hk (i,x) (by simp));exact bld_rc r h (hr.spl_ h1) fun p hp=>hk p (List.mem_cons_of_mem _ hp)
theorem bld_one {k:Nat}:∀ (ps:List (Nat×Operand)) {vs:List Value},SatW X φ κ f L s a w->(∀ v∈vs,v.oneCell'=true)->(∀ p∈ps,(aev s p.2).known=true) ->
 ∀ v∈((ps.map fun p=>(p.1,a.eval p.2)).foldl (fun (l:List Value) p=>spl l (p.1 * k) p.2.cells.toList) vs),v.oneCell'=true
 | [],vs,_,hr,_=>hr
 | (i,x) :: r,vs,h,hr,hk=>by
  obtain ⟨_,h1⟩:=(h.ev x).cells_ (hk (i,x) (by simp));exact bld_one r h (spl_one hr h1) fun p hp=>hk p (List.mem_cons_of_mem _ hp)
theorem bldA_length (s:AS) (k:Nat):∀ (ps:List (Nat×Operand)) (l:List AV),(bldA s k ps l).length=l.length
 | [],_=>rfl
 | (i,x) :: r,l=>by rw [bldA,bldA_length s k r,spl_length]
theorem ap_buildSlice {T e n k:Nat} {parts:Array (Nat×Operand)} {i ie:TI} {z:List ZC} {fl fl':List AV} {b':List Sl} {rows:List (List AV)} (hg:o.guard=none) (ho:o.op=.buildSlice T n parts) (hT:tt[T]? = some i) (hk:i.kd=.sl e) (he:tt[e]? = some ie) (hz:ie.zero=some z)
 (hsz:ie.size=k) (hk0:Nat.ble 1 k=true) (hn:Nat.ble (n * k) 1000000=true) (hkn:parts.toList.all (fun p=>(aev s p.2).known && ((aev s p.2).cells.length == k) && Nat.ble (p.1 * k + k) (n * k))=true)
 (hfl:bldA s k parts.toList (zrow z n)=fl) (hcl:ClsC s.b fl fl' b') (hrows:chunks k n fl'=rows)
 (K:AP prog X ops Q rest (AS.put ⟨s.t,(newS b' (.r e k rows)).2⟩ o.dst (.hd (newS b' (.r e k rows)).1.1 (newS b' (.r e k rows)).1.2))):AP prog X ops Q (o :: rest) s:=
 .runG hg (fun X φ κ f a w h=>by
  have hk0:=Nat.le_of_ble_eq_true hk0;have hn:=Nat.le_of_ble_eq_true hn;obtain ⟨d,j,hd,hj,_,hjs,_,hzz⟩:=TI.parts (ty he);obtain ⟨zv,hzv,hzc,hzl,_⟩:=hzz z hz;have hzk:z.length=k:=by rw [hzl,hsz]
  have hall:∀ p∈parts.toList,(aev s p.2).known=true/\(aev s p.2).cells.length=k/\p.1 * k + k<=n * k:=fun p hp=>by
   have:=List.all_eq_true.1 hkn p hp;simp only [Bool.and_eq_true,beq_iff_eq] at this;exact ⟨this.1.1,this.1.2,Nat.le_of_ble_eq_true this.2⟩
  have hzs:zv.cells.size=k:=by rw [←Array.length_toList,hzc];simpa using hzk
  have hrow:RC w φ κ X.R (zrow z n) ((Array.range (n * k)).map (fun i=>zv.cells[i % zv.cells.size]!)).toList Ct.z:=RC.of_at (by simp [zrow_length,hzk]) fun i b hi=>by
   have hil:i < n * k:=by have:=(List.getElem?_eq_some_iff.1 hi).1;rwa [zrow_length,hzk] at this
   rw [zrow_at (by omega) n i (by rwa [hzk])] at hi
   injection hi with hi;subst hi
   refine ⟨_,?_,.sc (ZC.one _)⟩;have hm:i % z.length < zv.cells.toList.length:=by rw [hzc];simpa using Nat.mod_lt _ (by omega)
   simp only [Array.toList_map,Array.toList_range,List.getElem?_map,List.getElem?_range hil,Option.map_some,Option.some.injEq];rw [show zv.cells.size=z.length by omega];rw [getElem!_pos zv.cells (i % z.length) (by simpa using hm)];have:zv.cells.toList[i % z.length]'hm=(z[i % z.length]'(Nat.mod_lt _ (by omega))).val:=by simp only [hzc,List.getElem_map]
   simpa using this
  have hone0:∀ v∈((Array.range (n * k)).map (fun i=>zv.cells[i % zv.cells.size]!)).toList,v.oneCell'=true:=fun v hv=>by
   obtain ⟨i,hi,rfl⟩:=List.mem_iff_getElem.1 hv;have hil:i < n * k:=by simpa using hi
   obtain ⟨v,hv1,hv2⟩:=hrow.at_ (i:=i) (zrow_at (by omega) n i (by rwa [hzk]));rw [List.getElem?_eq_getElem hi] at hv1;injection hv1 with hv1
   rw [hv1];have:=RV.sc_inv hv2;rw [this];exact ZC.one _
  have hrc:=bld_rc (k:=k) parts.toList h hrow fun p hp=>(hall p hp).1
  have hon:=bld_one (k:=k) parts.toList h hone0 fun p hp=>(hall p hp).1
  rw [hfl] at hrc;generalize hcells:(List.foldl (fun (l:List Value) (p:Nat×Value)=>spl l (p.1 * k) p.2.cells.toList) ((Array.range (n * k)).map (fun i=>zv.cells[i % zv.cells.size]!)).toList (parts.toList.map fun p=>(p.1,a.eval p.2)))=cs at hrc hon;obtain ⟨X1,S,f1,hX1,h1,h1',h2⟩:=SatW.cls (t:=s.t) hcl h hrc;have hfl':fl'.length=n * k:=by rw [←h1.length,hrc.length,←hfl,bldA_length,zrow_length,hzk]
  have hre:=RE.chunks_ hk0 n h1 hfl' hon h1';rw [hrows] at hre;have hlr:rows.length=n:=by rw [←hrows];exact chunks_length _ _ _
  have hcl:cs.length=n * k:=by rw [hrc.length,←hfl,bldA_length,zrow_length,hzk]
  have hsl:=ty_sl hT hk
  have hrun:(execOp a.eval o).run prog w=.ok (.value (.slice (some ⟨w.heap.size,0,none⟩) n n)) (w.alloc (.cells cs.toArray e)):=by
   have hfill:Instr.fill (fun i=>some (i * k,k)) ((Array.range (n * k)).map (fun i=>zv.cells[i % zv.cells.size]!)) ((parts.map fun (i,x)=>(i,a.eval x)).toList)=some cs.toArray:=by
    rw [fill_spl]
    ·rw [←hcells];simp
    ·intro p hp;simp only [Array.toList_map,List.mem_map] at hp;obtain ⟨q,hq,rfl⟩:=hp;obtain ⟨a1,a2,a3⟩:=hall q hq;obtain ⟨hc1,_⟩:=(h.ev q.2).cells_ a1;have:=hc1.length;simp at this;exact ⟨by show (a.eval q.2).cells.size=k;omega,by simpa using a3⟩
   simp only [execOp,ho,Instr.buildSlice,Sem.run_bind,run_underlying hsl,Result.andThen_ok,ty_size he,hsz];rw [if_neg (by omega)]
   by_cases h0:n * k=0
   ·simp only [h0,if_true,Sem.run_pure,Result.andThen_ok,Sem.run_bind];have hcs:cs=[]:=List.eq_nil_of_length_eq_zero (by omega);subst hcs;have hn0:n=0:=by rcases Nat.mul_eq_zero.1 h0 with h|h<;>omega
    subst hn0
    have hp0:parts.toList=[]:=by
     cases hpl:parts.toList with
     | nil=>rfl
     | cons p r=>have:=(hall p (by rw [hpl];simp)).2.2;simp at this;omega
    have:(parts.map fun (i,x)=>(i,a.eval x)).toList=[]:=by simp [hp0]
    rw [this];have h9:(Array.map (fun x=>(#[]:Array Value)[x % (#[]:Array Value).size]!) (Array.range 0))=#[]:=by simp
    rw [h9];rfl
   ·simp only [h0,if_false];have hzr:(zeroValue e).run prog w=.ok zv w:=by simp [zeroValue,typeInfo,hj,hzv,go_sem]
    simp only [Sem.run_bind,hzr,Result.andThen_ok,Sem.run_pure,hfill];rfl
  obtain ⟨φ',κ',f',e1,e2,e3,e4,e5⟩:=h2.newS_ (w':=w.alloc (.cells cs.toArray e)) (B:=.r e k rows) (g:=fun x=>(if x=w.heap.size then 1 else 0) + S x) (L':=Ct.z) none (some (.slice (some ⟨w.heap.size,0,none⟩) n n)) (by simp) rfl rfl rfl
   (fun x hx _=>Below.heap_alloc w _ x hx)
   (fun φ' κ' j u a b c d=>.r d (by
     have hkeep:=RE.keep (w':=w.alloc (.cells cs.toArray e)) (fun x hx=>Below.heap_alloc w _ x (h2.blk (.inl hx))) (RE.any φ' κ' hre) (fun x hx=>Below.heap_alloc w _ x (h2.own x (by (try dsimp only);omega)).1);have:=RV.ow (e:=e) (cap:=n) (cur:=cs.toArray) hkeep (heap_alloc_new w _) (by omega) (by unfold maxLen;have:n<=n * k:=Nat.le_mul_of_pos_right _ hk0;omega) (by simpa using hcl) (by rw [hlr];exact List.take_of_length_le (by simp;omega)) fun _=>rfl
     rw [hlr] at this;exact this))
   (fun x hx=>by simp only [Ct.z];rw [if_neg (by omega)];omega)
   (fun x hx=>by
     have h3:=h2.own x;dsimp only at h3;simp only [Ct.z]
     have:S x=0:=by
      by_cases hS:S x=0
      ·exact hS
      ·have:=(h3 (by omega)).1;omega
     rw [this];split<;>simp_all)
  exact ⟨X1,_,_,φ',κ',f',hX1,hrun,e5.puts o.dst (.hd e4 rfl)⟩) K
theorem ap_bslB {T e n k:Nat} {parts:Array (Nat×Operand)} {i ie:TI} {z:List ZC} {fl:List AV} (hg:o.guard=none) (ho:o.op=.buildSlice T n parts) (hT:tt[T]? = some i) (hk:i.kd=.sl e) (he:tt[e]? = some ie) (hz:ie.zero=some z)
 (hsz:ie.size=k) (hk0:Nat.ble 1 k=true) (hn:Nat.ble (n * k) 1000000=true) (hkn:parts.toList.all (fun p=>(aev s p.2).known && ((aev s p.2).cells.length == k) && Nat.ble (p.1 * k + k) (n * k))=true)
 (hn0:Nat.ble 1 n=true) (hfl:bldA s k parts.toList (zrow z n)=fl)
 (K:AP prog X ops Q rest (AS.put ⟨s.t,(newS s.b (.c e fl)).2⟩ o.dst (.sb (newS s.b (.c e fl)).1.1 (newS s.b (.c e fl)).1.2 k 0 n n))):AP prog X ops Q (o :: rest) s:=
 .run hg (fun X φ κ f a w h=>by
  have hk0:=Nat.le_of_ble_eq_true hk0;have hn:=Nat.le_of_ble_eq_true hn;have hn0:=Nat.le_of_ble_eq_true hn0;obtain ⟨d,j,hd,hj,_,hjs,_,hzz⟩:=TI.parts (ty he);obtain ⟨zv,hzv,hzc,hzl,_⟩:=hzz z hz;have hzk:z.length=k:=by rw [hzl,hsz]
  have hall:∀ p∈parts.toList,(aev s p.2).known=true/\(aev s p.2).cells.length=k/\p.1 * k + k<=n * k:=fun p hp=>by
   have:=List.all_eq_true.1 hkn p hp;simp only [Bool.and_eq_true,beq_iff_eq] at this;exact ⟨this.1.1,this.1.2,Nat.le_of_ble_eq_true this.2⟩
  have hzs:zv.cells.size=k:=by rw [←Array.length_toList,hzc];simpa using hzk
  have hrow:RC w φ κ X.R (zrow z n) ((Array.range (n * k)).map (fun i=>zv.cells[i % zv.cells.size]!)).toList Ct.z:=RC.of_at (by simp [zrow_length,hzk]) fun i b hi=>by
   have hil:i < n * k:=by have:=(List.getElem?_eq_some_iff.1 hi).1;rwa [zrow_length,hzk] at this
   rw [zrow_at (by omega) n i (by rwa [hzk])] at hi
   injection hi with hi;subst hi
   refine ⟨_,?_,.sc (ZC.one _)⟩;have hm:i % z.length < zv.cells.toList.length:=by rw [hzc];simpa using Nat.mod_lt _ (by omega)
   simp only [Array.toList_map,Array.toList_range,List.getElem?_map,List.getElem?_range hil,Option.map_some,Option.some.injEq];rw [show zv.cells.size=z.length by omega];rw [getElem!_pos zv.cells (i % z.length) (by simpa using hm)];have:zv.cells.toList[i % z.length]'hm=(z[i % z.length]'(Nat.mod_lt _ (by omega))).val:=by simp only [hzc,List.getElem_map]
   simpa using this
  have hone0:∀ v∈((Array.range (n * k)).map (fun i=>zv.cells[i % zv.cells.size]!)).toList,v.oneCell'=true:=fun v hv=>by
   obtain ⟨i,hi,rfl⟩:=List.mem_iff_getElem.1 hv;have hil:i < n * k:=by simpa using hi
   obtain ⟨v,hv1,hv2⟩:=hrow.at_ (i:=i) (zrow_at (by omega) n i (by rwa [hzk]));rw [List.getElem?_eq_getElem hi] at hv1;injection hv1 with hv1
   rw [hv1];have:=RV.sc_inv hv2;rw [this];exact ZC.one _
  have hrc:=bld_rc (k:=k) parts.toList h hrow fun p hp=>(hall p hp).1
  have hon:=bld_one (k:=k) parts.toList h hone0 fun p hp=>(hall p hp).1
  rw [hfl] at hrc;generalize hcells:(List.foldl (fun (l:List Value) (p:Nat×Value)=>spl l (p.1 * k) p.2.cells.toList) ((Array.range (n * k)).map (fun i=>zv.cells[i % zv.cells.size]!)).toList (parts.toList.map fun p=>(p.1,a.eval p.2)))=cs at hrc hon;have hcl:cs.length=n * k:=by rw [hrc.length,←hfl,bldA_length,zrow_length,hzk]
  have hsl:=ty_sl hT hk
  have hrun:(execOp a.eval o).run prog w=.ok (.value (.slice (some ⟨w.heap.size,0,none⟩) n n)) (w.alloc (.cells cs.toArray e)):=by
   have hfill:Instr.fill (fun i=>some (i * k,k)) ((Array.range (n * k)).map (fun i=>zv.cells[i % zv.cells.size]!)) ((parts.map fun (i,x)=>(i,a.eval x)).toList)=some cs.toArray:=by
    rw [fill_spl]
    ·rw [←hcells];simp
    ·intro p hp;simp only [Array.toList_map,List.mem_map] at hp;obtain ⟨q,hq,rfl⟩:=hp;obtain ⟨a1,a2,a3⟩:=hall q hq;obtain ⟨hc1,_⟩:=(h.ev q.2).cells_ a1;have:=hc1.length;simp at this;exact ⟨by show (a.eval q.2).cells.size=k;omega,by simpa using a3⟩
   simp only [execOp,ho,Instr.buildSlice,Sem.run_bind,run_underlying hsl,Result.andThen_ok,ty_size he,hsz];rw [if_neg (by omega)]
   by_cases h0:n * k=0
   ·simp only [h0,if_true,Sem.run_pure,Result.andThen_ok,Sem.run_bind];have hcs:cs=[]:=List.eq_nil_of_length_eq_zero (by omega);subst hcs;have hn0:n=0:=by rcases Nat.mul_eq_zero.1 h0 with h|h<;>omega
    subst hn0
    have hp0:parts.toList=[]:=by
     cases hpl:parts.toList with
     | nil=>rfl
     | cons p r=>have:=(hall p (by rw [hpl];simp)).2.2;simp at this;omega
    have:(parts.map fun (i,x)=>(i,a.eval x)).toList=[]:=by simp [hp0]
    rw [this];have h9:(Array.map (fun x=>(#[]:Array Value)[x % (#[]:Array Value).size]!) (Array.range 0))=#[]:=by simp
    rw [h9];rfl
   ·simp only [h0,if_false];have hzr:(zeroValue e).run prog w=.ok zv w:=by simp [zeroValue,typeInfo,hj,hzv,go_sem]
    simp only [Sem.run_bind,hzr,Result.andThen_ok,Sem.run_pure,hfill];rfl
  obtain ⟨φ',κ',f',e1,e2,e3,e4,e5⟩:=h.newS_ (w':=w.alloc (.cells cs.toArray e)) (B:=.c e fl) (L':=Ct.z) (g:=fun x=>if x=w.heap.size then 1 else 0) (some w.heap.size) none (by simp) rfl rfl rfl
   (fun x hx _=>Below.heap_alloc w _ x hx) (fun φ' κ' j u a b c d=>RS.made hrc hon (fun x hx=>h.blk (.inl hx)) φ' κ' a b c)
   (fun x hx=>by simp [Ct.z];omega) (fun x hx=>by simp only [Ct.z];split<;>simp_all)
  exact ⟨_,_,φ',κ',f',hrun,e5.puts o.dst (.sb e3 (Nat.le_refl _) (by unfold maxLen;have:n<=n * k:=Nat.le_mul_of_pos_right _ hk0;omega))⟩) K
theorem heap_setCellsZ (b:Nat) (T:TypeId) (z:Nat×Nat):∀ (us vs:List Value) (o:Nat) (w:World),w.heap[b]? = some (.cells vs.toArray T z)->(w.setCells b o us).heap[b]? = some (.cells (spl vs o us).toArray T z)
 | [],vs,o,w,h=>h
 | u :: us,vs,o,w,h=>by
  refine heap_setCellsZ b T z us (vs.set o u) (o + 1) (w.setCell ⟨b,o,none⟩ u) ?_;simp [World.setCell,Array.getElem?_modify,h]
theorem spl_take {α:Type}:∀ (us:List α) (vs:List α) (o:Nat),o + us.length<=vs.length->(spl vs o us).take (o + us.length)=vs.take o ++ us
 | [],vs,o,_=>by simp [spl]
 | u :: us,vs,o,h=>by
  have h':o < vs.length:=by simp at h;omega
  have:=spl_take us (vs.set o u) (o + 1) (by simp at h ⊢;omega);rw [spl,List.length_cons,show o + (us.length + 1)=o + 1 + us.length by omega,this,List.take_succ_eq_append_getElem (by simpa using h')];simp;apply List.ext_getElem?;intro i;simp only [List.getElem?_take,List.getElem?_set];split
  ·rw [if_neg (by omega)]
  ·rfl
theorem run_append_rv {T e k:Nat} {i ie:TI} {s1 s2:List (List AV)} {v sv:Value} {S1 S2:Ct} {us2:List Value} (hT:tt[T]? = some i) (hk:i.kd=.sl e) (he:tt[e]? = some ie) (hz:ie.zero.isSome=true) (hsz:ie.size=k) (hk0:0 < k)
 (hv:RV w φ κ R (.sl (some e) k s1) v S1) (h2:RE w φ κ R k s2 us2 S2) (hsv:(sv=.slice none 0 0/\us2=[])\/∃ A c,sv=.slice (some A) s2.length c/\∀ j u,us2[j]? = some u->w.cell? (A.add j)=some u)
 (hR:∀ x,R x->x < w.heap.size/\S1 x=0/\S2 x=0) (hS:∀ x,S1 x + S2 x<=1) (hSw:∀ x,S1 x + S2 x≠0->x < w.heap.size) (hlen:s1.length + s2.length<=1000000000) (hby:ie.bytes<=100000) (ty:TypeId) :
 ∃ v' w' S',(Builtin.append_ #[T,T] ty #[v,sv]).run prog w=.ok v' w'/\(∀ φ' κ',RV w' φ' κ' R (.sl (some e) k (s1 ++ s2)) v' S')/\(∀ x,x < w.heap.size->S1 x + S2 x=0->w'.heap[x]? = w.heap[x]?) /\
  w.heap.size<=w'.heap.size/\w'.os=w.os/\w'.tape=w.tape/\w'.output=w.output/\(∀ x,x < w.heap.size->S' x<=S1 x + S2 x)/\(∀ x,w.heap.size<=x->S' x<=1/\(S' x≠0->x < w'.heap.size)):=by
 obtain ⟨d,j,hd,hj,_,hjs,hjb,hzz⟩:=TI.parts (Go.Proofs.YtnjllcnjcpfbhaaGreat.ty he);obtain ⟨z,hz⟩:=Option.isSome_iff_exists.1 hz;obtain ⟨zv,hzv,hzc,hzl,_⟩:=hzz z hz;have hsl:=ty_sl hT hk;have hzs:zv.cells.size=k:=by rw [←Array.length_toList,hzc];simp [hzl,hsz]
 have hl2:=h2.length
 by_cases hne:∃ A0,v=.slice (some A0) 0 0/\s1=[]/\S1=Ct.z
 ·obtain ⟨A0,rfl,rfl,rfl⟩:=hne;rcases hsv with ⟨rfl,rfl⟩|⟨A2,c2,rfl,hcell⟩
  ·have hs2:s2=[]:=by
    have h9:s2.length * k=0:=by simpa using hl2.symm
    rcases Nat.mul_eq_zero.1 h9 with h|h
    ·exact List.eq_nil_of_length_eq_zero h
    ·omega
   subst hs2;refine ⟨.slice (some A0) 0 0,w,Ct.z,?_,fun φ' κ'=>.ne,fun _ _ _=>rfl,Nat.le_refl _,rfl,rfl,rfl,fun x _=>Nat.zero_le _,fun x _=>⟨Nat.zero_le _,fun h=>absurd rfl h⟩⟩;simp [Builtin.append_,run_underlying hsl,sizeOf,typeInfo,hj,Builtin.lenOf,Builtin.firstCells,storeCells]
  ·by_cases hm:s2.length=0
   ·have hs2:=List.eq_nil_of_length_eq_zero hm;subst hs2;refine ⟨.slice (some A0) 0 0,w,Ct.z,?_,fun φ' κ'=>.ne,fun _ _ _=>rfl,Nat.le_refl _,rfl,rfl,rfl,fun x _=>Nat.zero_le _,fun x _=>⟨Nat.zero_le _,fun h=>absurd rfl h⟩⟩;simp [Builtin.append_,run_underlying hsl,sizeOf,typeInfo,hj,Builtin.lenOf,Builtin.firstCells,storeCells,loadCells,loadCellsFrom]
   ·obtain ⟨v',w',hrun,ho',hg⟩:=run_append_arg_grows (P:=prog) w T ty e j zv k ie.bytes hsl hj hzv (by rw [hjs,hsz]) hjb hzs hk0 A0 0 0 [] (by simp) (fun j u hj=>by simp at hj) A2 s2.length c2 us2 hl2
     hcell (by omega) (by unfold maxLen;omega) (by
      have:(0 + s2.length) * ie.bytes<=1000000000 * 100000:=Nat.mul_le_mul (by simp at hlen;omega) hby;omega)
    have hkeepR:∀ x,R x->w'.heap[x]? = w.heap[x]?:=fun x hx=>hg.block x (hR x hx).1 (by simp)
    have hkeepS:∀ x,S2 x≠0->w'.heap[x]? = w.heap[x]?:=fun x hx=>hg.block x (hSw x (by omega)) (by simp)
    have hre:=RE.keep hkeepR h2 hkeepS;rcases ho'.2 with ⟨rfl,h0⟩|⟨g,cap,cur,rfl,hgl,hh,hle,hm',hsz',htk⟩
    ·omega
    ·have hgw':g < w'.heap.size:=(Array.getElem?_eq_some_iff.1 hh).1;refine ⟨_,w',fun x=>(if x=g then 1 else 0) + S2 x,hrun,fun φ' κ'=>?_,fun x hx h0=>hg.block x hx (by simp),hg.size,hg.os,hg.tape,hg.output,fun x hx=>?_,fun x hx=>?_⟩
     ·have:=RV.ow (e:=e) (RE.any φ' κ' hre) hh (by simpa using hle) hm' hsz' (by simpa using htk) (T:=fun x=>(if x=g then 1 else 0) + S2 x) fun _=>rfl
      simpa using this
     ·dsimp only;rw [if_neg (by omega)];omega
     ·dsimp only
      have h5:S2 x=0:=by
       by_cases h6:S2 x=0
       ·exact h6
       ·have:=hSw x (by omega);omega
      rw [h5];split
      ·rename_i e;subst e;exact ⟨by omega,fun _=>hgw'⟩
      ·simp
 -- the row lies in a block
 by_cases hom:∃ g cap cur us S,v=.slice (some ⟨g,0,none⟩) s1.length cap/\Mk w g cur e/\RE w φ κ R k s1 us S/\s1.length<=cap/\cap<=maxLen/\cur.size=cap * k/\cur.toList.take (s1.length * k)=us/\∀ x,S1 x=(if x=g then 1 else 0) + S x
 ·obtain ⟨g,cap,cur,us,S,rfl,hh,hre,hle,hm,hsz',htk,hSx⟩:=hom;have hgS:=hSx g;rw [if_pos rfl] at hgS;have hgS2:=hS g;have hS0:S g=0:=by omega
  have hS2g:S2 g=0:=by omega
  have hgw:=hSw g (by omega);have hus:us.length=s1.length * k:=hre.length;rcases hsv with ⟨rfl,rfl⟩|⟨A2,c,rfl,hcell⟩
  ·have hs2:s2=[]:=by
    have h9:s2.length * k=0:=by simpa using hl2.symm
    rcases Nat.mul_eq_zero.1 h9 with h|h
    ·exact List.eq_nil_of_length_eq_zero h
    ·omega
   subst hs2;refine ⟨_,w,S1,?_,fun φ' κ'=>by simpa using RV.any φ' κ' hv rfl,fun _ _ _=>rfl,Nat.le_refl _,rfl,rfl,rfl,fun x _=>by omega,fun x hx=>⟨by have:=hS x;omega,fun h0=>hSw x (by omega)⟩⟩;simp [Builtin.append_,run_underlying hsl,sizeOf,typeInfo,hj,Builtin.lenOf,Builtin.firstCells,hle,storeCells]
  ·by_cases hroom:s1.length + s2.length<=cap
   ·have hpos:s1.length * k + s2.length * k<=cur.size:=by rw [hsz',←Nat.add_mul];exact Nat.mul_le_mul_right k hroom
    have hjk:j.size=k:=by rw [hjs,hsz]
    have hrun:=run_append_room_cells (P:=prog) w T ty e j hsl hj g 0 s1.length cap A2 s2.length c us2 (by rw [hjk];exact hl2) hcell h2.one hroom (fun i hi=>by
     rw [hh.cell,hjk,Array.getElem?_eq_getElem (by omega)];rfl) (fun i hi=>hh.frozen (by rw [hjk];omega))
    rw [hjk,Nat.zero_add] at hrun;have hne:∀ x,x≠g->(w.setCells g (s1.length * k) us2).heap[x]? = w.heap[x]?:=fun x hx=>heap_setCells_ne g _ _ w x hx
    have hh':Mk (w.setCells g (s1.length * k) us2) g (spl cur.toList (s1.length * k) us2).toArray e:=by
     obtain ⟨z,hz1,hz2⟩:=hh;exact ⟨z,heap_setCellsZ g e z us2 cur.toList _ w (by simpa using hz1),by simpa [spl_length] using hz2⟩
    refine ⟨_,_,fun x=>(if x=g then 1 else 0) + (S x + S2 x),hrun,fun φ' κ'=>?_,fun x hx h0=>hne x (by rintro rfl;omega),by rw [size_setCells];exact Nat.le_refl _,os_setCells' g _ _ w,tape_setCells g _ _ w,out_setCells g _ _ w,fun x hx=>?_,fun x hx=>?_⟩
    ·have hre':=RE.append (RE.keep (w':=w.setCells g (s1.length * k) us2) (fun x hx=>hne x (by rintro rfl;have:=(hR _ hx).2.1;omega)) hre fun x hx=>hne x (by rintro rfl;omega)) (RE.keep (w':=w.setCells g (s1.length * k) us2) (fun x hx=>hne x (by rintro rfl;have:=(hR _ hx).2.1;omega)) h2 fun x hx=>hne x (by rintro rfl;omega)) (U:=fun x=>S x + S2 x) fun _=>rfl
     have:=RV.om (e:=e) (RE.any φ' κ' hre') hh' (by rw [List.length_append];exact hroom) hm (by simpa [spl_length] using hsz') (by
      rw [List.length_append,Nat.add_mul,←hl2]
      show (spl cur.toList (s1.length * k) us2).take _=_
      rw [spl_take _ _ _ (by rw [hl2];simpa using hpos),htk]) (T:=fun x=>(if x=g then 1 else 0) + (S x + S2 x)) fun _=>rfl
     rw [List.length_append] at this;exact this
    ·dsimp only;rw [hSx x];omega
    ·dsimp only
     have h5:S1 x + S2 x=0:=by
      by_cases h6:S1 x + S2 x=0
      ·exact h6
      ·have:=hSw x h6;omega
     have:=hSx x;rw [if_neg (by omega)];exact ⟨by omega,fun h=>by omega⟩
   ·obtain ⟨v',w',hrun,ho',hg⟩:=run_append_arg_grows (P:=prog) w T ty e j zv k ie.bytes hsl hj hzv (by rw [hjs,hsz]) hjb hzs hk0 ⟨g,0,none⟩ s1.length cap us hus (fun i u hi=>by
     rw [addr_mid,hh.cell (0 + i)];rw [←htk,List.getElem?_take] at hi;split at hi
     ·simpa using hi
     ·cases hi) A2 s2.length c us2 hl2 hcell (by omega) (by unfold maxLen;omega) (by
     have:(s1.length + s2.length) * ie.bytes<=1000000000 * 100000:=Nat.mul_le_mul hlen hby;omega)
    have hkeepR:∀ x,R x->w'.heap[x]? = w.heap[x]?:=fun x hx=>hg.block x (hR x hx).1 (by simp)
    have hkeepS:∀ x,S x≠0->w'.heap[x]? = w.heap[x]?:=fun x hx=>hg.block x (hSw x (by have:=hSx x;omega)) (by simp)
    have hkeepS2:∀ x,S2 x≠0->w'.heap[x]? = w.heap[x]?:=fun x hx=>hg.block x (hSw x (by omega)) (by simp)
    have hre2:=RE.append (RE.keep hkeepR hre hkeepS) (RE.keep hkeepR h2 hkeepS2) (U:=fun x=>S x + S2 x) fun _=>rfl
    rcases ho'.2 with ⟨rfl,h0⟩|⟨g',cap',cur',rfl,hgl,hh',hle',hmx',hsz'',htk'⟩
    ·omega
    ·have hgw':g' < w'.heap.size:=(Array.getElem?_eq_some_iff.1 hh').1;refine ⟨_,w',fun x=>(if x=g' then 1 else 0) + (S x + S2 x),hrun,fun φ' κ'=>?_,fun x hx h0=>hg.block x hx (by simp),hg.size,hg.os,hg.tape,hg.output,fun x hx=>?_,fun x hx=>?_⟩
     ·have:=RV.ow (e:=e) (RE.any φ' κ' hre2) hh' (by rw [List.length_append];exact hle') hmx' hsz'' (by rw [List.length_append];exact htk') (T:=fun x=>(if x=g' then 1 else 0) + (S x + S2 x)) fun _=>rfl
      rw [List.length_append] at this;exact this
     ·dsimp only;rw [if_neg (by omega)];have:=hSx x;omega
     ·dsimp only
      have h5:S1 x + S2 x=0:=by
       by_cases h6:S1 x + S2 x=0
       ·exact h6
       ·have:=hSw x h6;omega
      have:=hSx x;have h6:S x + S2 x=0:=by omega
      rw [h6];split
      ·rename_i e;subst e;exact ⟨by omega,fun _=>hgw'⟩
      ·simp
 -- the row
 have hrow:∃ us1 S3,w.ownsRow 0 e k v s1.length us1/\RE w φ κ R k s1 us1 S3/\(∀ x,S3 x<=S1 x)/\(∀ g,v.ownBlock=some g->S1 g≠0/\S3 g=0/\∀ x,S1 x=(if x=g then 1 else 0) + S3 x)/\(v.ownBlock=none->v=.slice none 0 0):=by
  cases hv with
  | ni=>exact ⟨[],Ct.z,⟨by simp,.inl ⟨rfl,rfl⟩⟩,.nil,fun _=>Nat.le_refl _,fun g hg=>by simp [Value.ownBlock] at hg,fun _=>rfl⟩
  | ne=>exact absurd ⟨_,rfl,rfl,rfl⟩ hne
  | @om _ _ _ g cap cur us S _ hre hh hle hm hsz' htk hSx=>exact absurd ⟨g,cap,cur,us,S,rfl,hh,hre,hle,hm,hsz',htk,hSx⟩ hom
 obtain ⟨us1,S3,hown,hre1,hS3,hblk,hnone⟩:=hrow;have hw:∀ x,S3 x + S2 x≠0->x < w.heap.size:=fun x hx=>hSw x (by have:=hS3 x;omega)
 rcases hsv with ⟨rfl,rfl⟩|⟨A2,c,rfl,hcell⟩
 ·have hs2:s2=[]:=by
   have h9:s2.length * k=0:=by simpa using hl2.symm
   rcases Nat.mul_eq_zero.1 h9 with h|h
   ·exact List.eq_nil_of_length_eq_zero h
   ·omega
  subst hs2;refine ⟨v,w,S1,?_,fun φ' κ'=>by simpa using RV.any φ' κ' hv rfl,fun _ _ _=>rfl,Nat.le_refl _,rfl,rfl,rfl,fun x _=>by omega,fun x hx=>⟨by have:=hS x;omega,fun h0=>hSw x (by omega)⟩⟩;rcases hown.2 with ⟨rfl,h0⟩|⟨g,cap,cur,rfl,_,_,hnc,_⟩
  ·simp [Builtin.append_,run_underlying hsl,sizeOf,typeInfo,hj,Builtin.lenOf,Builtin.firstCells]
  ·simp [Builtin.append_,run_underlying hsl,sizeOf,typeInfo,hj,Builtin.lenOf,Builtin.firstCells,hnc,storeCells]
 ·obtain ⟨v',w',hrun,ho',hg,hnil,hob⟩:=run_append_own_at (P:=prog) (w:=w) 0 T ty e j zv k ie.bytes hsl hj hzv (by rw [hjs,hsz]) hjb hzs hk0 v s1.length us1 hown A2 s2.length c us2 hl2
   hcell h2.one (by unfold maxLen;omega) (by
    have:(s1.length + s2.length) * ie.bytes<=1000000000 * 100000:=Nat.mul_le_mul hlen hby;omega) (Nat.zero_le _)
  have hkeepR:∀ x,R x->w'.heap[x]? = w.heap[x]?:=fun x hx=>hg.block x (hR x hx).1 (fun e=>by have:=(hblk x e.symm).1;have:=(hR x hx).2.1;omega)
  have hkeepS:∀ x,S3 x + S2 x≠0->w'.heap[x]? = w.heap[x]?:=fun x hx=>hg.block x (hw x hx) (fun e=>by
   obtain ⟨a1,a2,a3⟩:=hblk x e.symm;have:=hS x;omega)
  have hre:RE w' φ κ R k (s1 ++ s2) (us1 ++ us2) (fun x=>S3 x + S2 x):=
   RE.append (RE.keep hkeepR hre1 fun x hx=>hkeepS x (by omega)) (RE.keep hkeepR h2 fun x hx=>hkeepS x (by omega)) fun _=>rfl
  rcases ho'.2 with ⟨rfl,h0⟩|⟨g,cap,cur,rfl,_,hh,hle,hm,hsz',htk⟩
  ·have h1:s1=[]:=List.eq_nil_of_length_eq_zero (by omega);have h3:s2=[]:=List.eq_nil_of_length_eq_zero (by omega);subst h1 h3;refine ⟨_,w',Ct.z,hrun,fun φ' κ'=>.ni,fun x hx h0=>hg.block x hx (fun e=>by have:=(hblk x e.symm).1;omega),hg.size,hg.os,hg.tape,hg.output,fun x _=>Nat.zero_le _,fun x _=>⟨Nat.zero_le _,fun h=>absurd rfl h⟩⟩
  ·have hgw':g < w'.heap.size:=(Array.getElem?_eq_some_iff.1 hh).1
   have hgS:g < w.heap.size->S1 g=1/\S3 g=0/\S2 g=0/\∀ x,S1 x=(if x=g then 1 else 0) + S3 x:=fun hlt=>by
    rcases hob with h4|h4
    ·obtain ⟨a1,a2,a3⟩:=hblk g (by rw [←h4];rfl);have:=hS g;exact ⟨by omega,a2,by omega,a3⟩
    ·simp only [Value.ownBlock,Option.some.injEq] at h4;omega
   refine ⟨_,w',fun x=>(if x=g then 1 else 0) + (S3 x + S2 x),hrun,fun φ' κ'=>?_,fun x hx h0=>hg.block x hx (fun e=>by have:=(hblk x e.symm).1;omega),hg.size,hg.os,hg.tape,hg.output,fun x hx=>?_,fun x hx=>?_⟩
   ·have:=RV.ow (e:=e) (RE.any φ' κ' hre) hh (by rw [List.length_append];exact hle) hm hsz' (by rw [List.length_append];exact htk) (T:=fun x=>(if x=g then 1 else 0) + (S3 x + S2 x)) fun _=>rfl
    rw [List.length_append] at this;exact this
   ·dsimp only
    by_cases hxg:x=g
    ·subst hxg;obtain ⟨a1,a2,a3,a4⟩:=hgS hx;simp;omega
    ·rw [if_neg hxg];have:=hS3 x;omega
   ·dsimp only
    have h5:S3 x + S2 x=0:=by
     by_cases h6:S3 x + S2 x=0
     ·exact h6
     ·have:=hw x h6;omega
    rw [h5];split
    ·rename_i e;subst e;exact ⟨by omega,fun _=>hgw'⟩
    ·simp
theorem ap_appendO {T e k b u:Nat} {x y:Operand} {s1:List (List AV)} {i ie:TI} {b1:List Sl} {s2:List (List AV)} (hg:o.guard=none) (ho:o.op=.call { callee:=.builtin .append,args:=#[x,y],argTypes:=#[T,T] }) (hx:aev s x=.hd b u) (hs:s.b[b]? = some ⟨u,.r e k s1⟩)
 (hT:tt[T]? = some i) (hk:i.kd=.sl e) (he:tt[e]? = some ie) (hz:ie.zero.isSome=true) (hsz:ie.size=k) (hk0:Nat.ble 1 k=true) (hby:Nat.ble ie.bytes 100000=true) (hlen:s1.length + s2.length<=1000000000)
 (hy:(aev s y=.sl none k s2/\b1=s.b)\/∃ b2 u2,aev s y=.hd b2 u2/\s.b[b2]? = some ⟨u2,.r e k s2⟩/\Nat.beq b2 b=false/\b1=s.b.set b2 ⟨u2,.x⟩)
 (K:AP prog X ops Q rest (AS.put ⟨s.t,b1.set b ⟨u + 1,.r e k (s1 ++ s2)⟩⟩ o.dst (.hd b (u + 1)))):AP prog X ops Q (o :: rest) s:=
 .run hg (fun X φ κ f a w h=>by
  have hk0:=Nat.le_of_ble_eq_true hk0;have hby:=Nat.le_of_ble_eq_true hby;have hv:=h.hdv hx hs;have hbl:b < s.b.length:=(List.getElem?_eq_some_iff.1 hs).1
  -- the source
  have hsrc:∃ f1 S2 us2,SatW X φ κ f1 S2 ⟨s.t,b1⟩ a w/\b1[b]? = some ⟨u,.r e k s1⟩/\f1 b=f b/\RE w φ κ X.R k s2 us2 S2/\((a.eval y=.slice none 0 0/\us2=[])\/∃ A c,a.eval y=.slice (some A) s2.length c/\∀ j u,us2[j]? = some u->w.cell? (A.add j)=some u):=by
   rcases hy with ⟨hy,rfl⟩|⟨b2,u2,hy,hs2,hne,rfl⟩
   ·have h1:=h.evs hy;refine ⟨f,Ct.z,?_⟩;generalize a.eval y=p at h1
    cases h1 with
    | ni=>exact ⟨[],h,hs,rfl,.nil,.inl ⟨rfl,rfl⟩⟩
    | ne=>exact ⟨[],h,hs,rfl,.nil,.inr ⟨_,_,rfl,fun j u hj=>by simp at hj⟩⟩
    | ro hre _ _ _ hc=>exact ⟨_,h,hs,rfl,hre,.inr ⟨_,_,rfl,fun j u hj=>by rw [addr_mid];exact hc j u hj⟩⟩
   ·have hne:=Nat.ne_of_beq_eq_false hne;have h1:=h.hdv hy hs2;obtain ⟨_,ht⟩:=h.take hs2 .x fun _ _=>.x
    have hb1:(s.b.set b2 ⟨u2,.x⟩)[b]? = some ⟨u,.r e k s1⟩:=by rw [List.getElem?_set_ne hne];exact hs
    have hf1:updF f b2 Ct.z b=f b:=by simp [updF,Ne.symm hne]
    generalize hp:a.eval y=p at h1;generalize hF:f b2=F at h1 ht
    cases h1 with
    | ni=>exact ⟨_,Ct.z,[],ht.drop fun x=>by simp [Ct.z],hb1,hf1,.nil,.inl ⟨rfl,rfl⟩⟩
    | ne=>exact ⟨_,Ct.z,[],ht.drop fun x=>by simp [Ct.z],hb1,hf1,.nil,.inr ⟨_,_,rfl,fun j u hj=>by simp at hj⟩⟩
    | @om _ _ _ g cap cur us S _ hre hh hle hm hsz' htk hSx=>
     refine ⟨_,S,us,ht.drop fun x=>by (try dsimp only);rw [hSx];simp only [Ct.z];omega,hb1,hf1,hre,.inr ⟨⟨g,0,none⟩,cap,rfl,fun j u hj=>?_⟩⟩;rw [addr_mid,hh.cell (0 + j)];rw [←htk,List.getElem?_take] at hj;split at hj
     ·simpa using hj
     ·cases hj
  obtain ⟨f1,S2,us2,h1,hb1,hf1,hre2,hsv⟩:=hsrc;have hsum:=fun x=>sumF_le f1 x b1.length b (List.getElem?_eq_some_iff.1 hb1).1
  obtain ⟨v',w',S',hrun,hrv,hblk,hsz',hos,htp,hou,hS1,hS2⟩:=run_append_rv (R:=X.R) hT hk he hz hsz hk0 hv hre2 hsv (fun x hx=>by
   have a1:=h1.not_rd hx;have a2:=hsum x;rw [hf1] at a2;exact ⟨h.blk (.inl hx),by dsimp only at a1;omega,by dsimp only at a1;omega⟩) (fun x=>by
   have a1:=h1.one x;have a2:=hsum x;rw [hf1] at a2;dsimp only at a1;omega) (fun x hx=>by
   have a1:=h1.own x;have a2:=hsum x;rw [hf1] at a2;dsimp only at a1;exact (a1 (by omega)).1) hlen hby o.type
  have hrun':(execOp a.eval o).run prog w=.ok (.value v') w':=by
   simp only [execOp,ho,resolve,invoke,builtin,Sem.run_bind,Sem.run_pure,Result.andThen_ok,List.map_toArray,List.map_cons,List.map_nil,hrun]
  have hnone:=h1.new b (u + 1) (fun e he=>by rw [hb1] at he;injection he with he;subst he;simp)
  have hκ:∀ b' v g,κ b' v=some g->(κ.on b (u + 1) (some v')) b' v=some g:=fun b' v g hg=>by
   unfold Ka.on
   by_cases hc:b'=b/\v=u + 1
   ·rw [hc.1,hc.2,hnone.2] at hg;cases hg
   ·rw [if_neg hc];exact hg
  have e2:(κ.on b (u + 1) (some v')) b (u + 1)=some v':=by simp [Ka.on]
  have ht:=h1.turn (w':=w') (φ':=φ) (κ':=κ.on b (u + 1) (some v')) (u:=u + 1) (B:=.r e k (s1 ++ s2)) (g:=S') (L':=Ct.z) hb1 (fun _ _ _ h=>h) hκ hsz' hos htp hou (fun x hx h0=>by rw [hf1] at h0;exact hblk x hx h0) (.r e2 (hrv _ _))
   (fun x hx=>by rw [hf1];have:=hS1 x hx;simp only [Ct.z];omega) (fun x hx=>by have:=hS2 x hx;simp only [Ct.z];exact ⟨by omega,fun h0=>this.2 (by omega)⟩) (by simp) (fun _ _ _ h=>h) (fun i v hv hn=>by
     unfold Ka.on;rw [if_neg (by omega)];exact hn)
  have hv1:v'.oneCell'=true:=by obtain ⟨A,c,rfl,_⟩:=(hrv φ κ).sl_form;rfl
  exact ⟨v',w',φ,_,_,hrun',ht.puts o.dst (.hd e2 hv1)⟩) K
theorem run_append_fs {T e k:Nat} {i ie:TI} {s1 s2:List (List AV)} {v sv:Value} {S2:Ct} {us2:List Value} (hT:tt[T]? = some i) (hk:i.kd=.sl e) (he:tt[e]? = some ie) (hz:ie.zero.isSome=true) (hsz:ie.size=k) (hk0:0 < k)
 (hv:RV w φ κ R (.fs k s1) v Ct.z) (h2:RE w φ κ R k s2 us2 S2) (hsv:(sv=.slice none 0 0/\us2=[])\/∃ A c,sv=.slice (some A) s2.length c/\∀ j u,us2[j]? = some u->w.cell? (A.add j)=some u)
 (hR:∀ x,R x->x < w.heap.size/\S2 x=0) (hS:∀ x,S2 x<=1) (hSw:∀ x,S2 x≠0->x < w.heap.size) (hlen:s1.length + s2.length<=1000000000) (hby:ie.bytes<=100000) (hm:s1=[]\/0 < s2.length) (ty:TypeId) :
 ∃ v' w' S',(Builtin.append_ #[T,T] ty #[v,sv]).run prog w=.ok v' w'/\(∀ φ' κ',RV w' φ' κ' R (.sl (some e) k (s1 ++ s2)) v' S')/\(∀ x,x < w.heap.size->S2 x=0->w'.heap[x]? = w.heap[x]?) /\
  w.heap.size<=w'.heap.size/\w'.os=w.os/\w'.tape=w.tape/\w'.output=w.output/\(∀ x,x < w.heap.size->S' x<=S2 x)/\(∀ x,w.heap.size<=x->S' x<=1/\(S' x≠0->x < w'.heap.size)):=by
 generalize hzz0:Ct.z=Z0 at hv
 cases hv with
 | fs hv0 hA=>
  obtain ⟨A,rfl⟩:=hA
  by_cases hs1:s1=[]
  ·subst hs1
   have hv':RV w φ κ R (.sl (some e) k []) (.slice A 0 0) Ct.z:=by
    generalize hnn:([]:List (List AV)).length=nn at hv0;simp at hnn;subst hnn
    cases hv0 with
    | ni=>exact .ni
    | ne=>exact .ne
    | ro _ _ _ _ _=>exact .ne
   obtain ⟨v',w',S',e1,e2,e3,e4,e5,e6,e7,e8,e9⟩:=run_append_rv hT hk he hz hsz hk0 hv' h2 hsv (fun x hx=>⟨(hR x hx).1,rfl,(hR x hx).2⟩) (fun x=>by simpa [Ct.z] using hS x) (fun x hx=>hSw x (by simpa [Ct.z] using hx)) hlen hby ty;exact ⟨v',w',S',e1,e2,fun x hx h0=>e3 x hx (by simpa [Ct.z] using h0),e4,e5,e6,e7,fun x hx=>by simpa [Ct.z] using e8 x hx,e9⟩
  ·have hm':0 < s2.length:=hm.resolve_left hs1;obtain ⟨d,j,hd,hj,_,hjs,hjb,hzz⟩:=TI.parts (Go.Proofs.YtnjllcnjcpfbhaaGreat.ty he);obtain ⟨z,hz⟩:=Option.isSome_iff_exists.1 hz;obtain ⟨zv,hzv,hzc,hzl,_⟩:=hzz z hz;have hsl:=ty_sl hT hk;have hzs:zv.cells.size=k:=by rw [←Array.length_toList,hzc];simp [hzl,hsz]
   have hl2:=h2.length;generalize hnn:s1.length=nn at hv0
   cases hv0 with
   | ni=>exact absurd rfl hs1
   | ne=>exact absurd rfl hs1
   | @ro _ _ b o _ us1 hre hle hmx hRb hcell1=>
    clear hnn;rcases hsv with ⟨rfl,rfl⟩|⟨A2,c2,rfl,hcell⟩
    ·have h9:s2.length * k=0:=by simpa using hl2.symm
     have:0 < s2.length * k:=Nat.mul_pos hm' hk0;omega
    ·obtain ⟨v',w',hrun,ho',hg⟩:=run_append_arg_grows (P:=prog) w T ty e j zv k ie.bytes hsl hj hzv (by rw [hjs,hsz]) hjb hzs hk0 ⟨b,o,none⟩ s1.length s1.length us1 hre.length (fun j u hj=>by rw [addr_mid];exact hcell1 j u hj) A2 s2.length c2 us2 hl2
      hcell (by omega) (by unfold maxLen;omega) (by
       have:(s1.length + s2.length) * ie.bytes<=1000000000 * 100000:=Nat.mul_le_mul hlen hby;omega)
     have hkeepR:∀ x,R x->w'.heap[x]? = w.heap[x]?:=fun x hx=>hg.block x (hR x hx).1 (by simp)
     have hkeepS:∀ x,S2 x≠0->w'.heap[x]? = w.heap[x]?:=fun x hx=>hg.block x (hSw x hx) (by simp)
     have hre2:=RE.append (RE.keep hkeepR hre fun x hx=>absurd rfl hx) (RE.keep hkeepR h2 hkeepS) (U:=S2) fun x=>by simp [Ct.z]
     rcases ho'.2 with ⟨rfl,h0⟩|⟨g,cap,cur,rfl,hgl,hh,hle',hmx',hsz',htk⟩
     ·omega
     ·have hgw':g < w'.heap.size:=(Array.getElem?_eq_some_iff.1 hh).1;refine ⟨_,w',fun x=>(if x=g then 1 else 0) + S2 x,hrun,fun φ' κ'=>?_,fun x hx h0=>hg.block x hx (by simp),hg.size,hg.os,hg.tape,hg.output,fun x hx=>?_,fun x hx=>?_⟩
      ·have:=RV.ow (e:=e) (RE.any φ' κ' hre2) hh (by rw [List.length_append];exact hle') hmx' hsz' (by rw [List.length_append];exact htk) (T:=fun x=>(if x=g then 1 else 0) + S2 x) fun _=>rfl
       rw [List.length_append] at this;exact this
      ·dsimp only;rw [if_neg (by omega)];omega
      ·dsimp only
       have h5:S2 x=0:=by
        by_cases h6:S2 x=0
        ·exact h6
        ·have:=hSw x h6;omega
       rw [h5];split
       ·rename_i e;subst e;exact ⟨by omega,fun _=>hgw'⟩
       ·simp
theorem ap_appendF0 {T e k:Nat} {x y:Operand} {s1:List (List AV)} {i ie:TI} {b1:List Sl} {s2:List (List AV)} (hg:o.guard=none) (ho:o.op=.call { callee:=.builtin .append,args:=#[x,y],argTypes:=#[T,T] }) (hxv:∀ X φ κ f a w,SatW X φ κ f Ct.z s a w->RV w φ κ X.R (.fs k s1) (a.eval x) Ct.z)
 (hT:tt[T]? = some i) (hk:i.kd=.sl e) (he:tt[e]? = some ie) (hz:ie.zero.isSome=true) (hsz:ie.size=k) (hk0:Nat.ble 1 k=true) (hby:Nat.ble ie.bytes 100000=true)
 (hy:(aev s y=.sl none k s2/\b1=s.b)\/∃ b2 u2,aev s y=.hd b2 u2/\s.b[b2]? = some ⟨u2,.r e k s2⟩/\b1=s.b.set b2 ⟨u2,.x⟩) (hlen:s1.length + s2.length<=1000000000) (hm:s1=[]\/0 < s2.length)
 (K:AP prog X ops Q rest (AS.put ⟨s.t,(newS b1 (.r e k (s1 ++ s2))).2⟩ o.dst (.hd (newS b1 (.r e k (s1 ++ s2))).1.1 (newS b1 (.r e k (s1 ++ s2))).1.2))):AP prog X ops Q (o :: rest) s:=
 .run hg (fun X φ κ f a w h=>by
  have hk0:=Nat.le_of_ble_eq_true hk0;have hby:=Nat.le_of_ble_eq_true hby;have hv:=hxv X φ κ f a w h
  have hsrc:∃ f1 S2 us2,SatW X φ κ f1 S2 ⟨s.t,b1⟩ a w/\RE w φ κ X.R k s2 us2 S2/\((a.eval y=.slice none 0 0/\us2=[])\/∃ A c,a.eval y=.slice (some A) s2.length c/\∀ j u,us2[j]? = some u->w.cell? (A.add j)=some u):=by
   rcases hy with ⟨hy,rfl⟩|⟨b2,u2,hy,hs2,rfl⟩
   ·have h1:=h.evs hy;refine ⟨f,Ct.z,?_⟩;generalize a.eval y=p at h1
    cases h1 with
    | ni=>exact ⟨[],h,.nil,.inl ⟨rfl,rfl⟩⟩
    | ne=>exact ⟨[],h,.nil,.inr ⟨_,_,rfl,fun j u hj=>by simp at hj⟩⟩
    | ro hre _ _ _ hc=>exact ⟨_,h,hre,.inr ⟨_,_,rfl,fun j u hj=>by rw [addr_mid];exact hc j u hj⟩⟩
   ·have h1:=h.hdv hy hs2;obtain ⟨_,ht⟩:=h.take hs2 .x fun _ _=>.x
    generalize hp:a.eval y=p at h1;generalize hF:f b2=F at h1 ht
    cases h1 with
    | ni=>exact ⟨_,Ct.z,[],ht.drop fun x=>by simp [Ct.z],.nil,.inl ⟨rfl,rfl⟩⟩
    | ne=>exact ⟨_,Ct.z,[],ht.drop fun x=>by simp [Ct.z],.nil,.inr ⟨_,_,rfl,fun j u hj=>by simp at hj⟩⟩
    | @om _ _ _ g cap cur us S _ hre hh hle hm hsz' htk hSx=>
     refine ⟨_,S,us,ht.drop fun x=>by (try dsimp only);rw [hSx];simp only [Ct.z];omega,hre,.inr ⟨⟨g,0,none⟩,cap,rfl,fun j u hj=>?_⟩⟩;rw [addr_mid,hh.cell (0 + j)];rw [←htk,List.getElem?_take] at hj;split at hj
     ·simpa using hj
     ·cases hj
  obtain ⟨f1,S2,us2,h1,hre2,hsv⟩:=hsrc
  obtain ⟨v',w',S',hrun,hrv,hblk,hsz',hos,htp,hou,hS1,hS2⟩:=run_append_fs (R:=X.R) hT hk he hz hsz hk0 hv hre2 hsv (fun x hx=>by
   have a1:=h1.not_rd hx;exact ⟨h.blk (.inl hx),by omega⟩) (fun x=>by have a1:=h1.one x;omega) (fun x hx=>by
   have a1:=h1.own x;exact (a1 (by omega)).1) hlen hby hm o.type
  have hrun':(execOp a.eval o).run prog w=.ok (.value v') w':=by
   simp only [execOp,ho,resolve,invoke,builtin,Sem.run_bind,Sem.run_pure,Result.andThen_ok,List.map_toArray,List.map_cons,List.map_nil,hrun]
  have hv1:v'.oneCell'=true:=by obtain ⟨A,c,rfl,_⟩:=(hrv φ κ).sl_form;rfl
  obtain ⟨φ',κ',f',e1,e2,e3,e4,e5⟩:=h1.newS_ (w':=w') (B:=.r e k (s1 ++ s2)) (g:=S') (L':=Ct.z) none (some v') hsz' hos htp hou hblk (fun φ' κ' j u a b c d=>.r d (hrv _ _))
   (fun x hx=>by have:=hS1 x hx;simp only [Ct.z];omega) (fun x hx=>by have:=hS2 x hx;simp only [Ct.z];exact ⟨by omega,fun h0=>this.2 (by omega)⟩)
  exact ⟨v',w',φ',κ',f',hrun',e5.puts o.dst (.hd e4 hv1)⟩) K
theorem ap_appendF {T e k:Nat} {x y:Operand} {s1:List (List AV)} {i ie:TI} {b1:List Sl} {s2:List (List AV)} (hg:o.guard=none) (ho:o.op=.call { callee:=.builtin .append,args:=#[x,y],argTypes:=#[T,T] }) (hx:aev s x=.fs k s1)
 (hT:tt[T]? = some i) (hk:i.kd=.sl e) (he:tt[e]? = some ie) (hz:ie.zero.isSome=true) (hsz:ie.size=k) (hk0:Nat.ble 1 k=true) (hby:Nat.ble ie.bytes 100000=true)
 (hy:(aev s y=.sl none k s2/\b1=s.b)\/∃ b2 u2,aev s y=.hd b2 u2/\s.b[b2]? = some ⟨u2,.r e k s2⟩/\b1=s.b.set b2 ⟨u2,.x⟩) (hlen:s1.length + s2.length<=1000000000) (hm:s1=[]\/0 < s2.length)
 (K:AP prog X ops Q rest (AS.put ⟨s.t,(newS b1 (.r e k (s1 ++ s2))).2⟩ o.dst (.hd (newS b1 (.r e k (s1 ++ s2))).1.1 (newS b1 (.r e k (s1 ++ s2))).1.2))):AP prog X ops Q (o :: rest) s:=
 ap_appendF0 hg ho (fun X φ κ f a w h=>h.evs hx) hT hk he hz hsz hk0 hby hy hlen hm K
theorem ap_appendN {T e k:Nat} {x y:Operand} {i ie:TI} {b1:List Sl} {s2:List (List AV)} (hg:o.guard=none) (ho:o.op=.call { callee:=.builtin .append,args:=#[x,y],argTypes:=#[T,T] }) (hx:aev s x=.sc (.slice none 0 0))
 (hT:tt[T]? = some i) (hk:i.kd=.sl e) (he:tt[e]? = some ie) (hz:ie.zero.isSome=true) (hsz:ie.size=k) (hk0:Nat.ble 1 k=true) (hby:Nat.ble ie.bytes 100000=true)
 (hy:(aev s y=.sl none k s2/\b1=s.b)\/∃ b2 u2,aev s y=.hd b2 u2/\s.b[b2]? = some ⟨u2,.r e k s2⟩/\b1=s.b.set b2 ⟨u2,.x⟩) (hlen:s2.length<=1000000000)
 (K:AP prog X ops Q rest (AS.put ⟨s.t,(newS b1 (.r e k s2)).2⟩ o.dst (.hd (newS b1 (.r e k s2)).1.1 (newS b1 (.r e k s2)).1.2))):AP prog X ops Q (o :: rest) s:=
 ap_appendF0 (s1:=[]) hg ho (fun X φ κ f a w h=>by rw [h.evc hx];exact .fs .ni ⟨none,rfl⟩) hT hk he hz hsz hk0 hby hy (by simpa using hlen) (.inl rfl) K
end
inductive Wk:List AV->List AV->Prop
 | nil:Wk [] []
 | same {a l l'}:Wk l l'->Wk (a :: l) (a :: l')
 | de {a l l'}:Wk l l'->Wk (a :: l) (.de :: l')
 | nl {o k l l'}:Wk l l'->Wk (.sc (.slice none 0 0) :: l) (.sl o k [] :: l')
inductive WkB:List Sl->List Sl->Prop
 | nil:WkB [] []
 | same {e l l'}:WkB l l'->WkB (e :: l) (e :: l')
 | drop {u B l l'}:WkB l l'->WkB (⟨u,B⟩ :: l) (⟨u,.x⟩ :: l')
 | cell {u T c c' l l'}:Wk c c'->WkB l l'->WkB (⟨u,.c T c⟩ :: l) (⟨u,.c T c'⟩ :: l')
structure Wks (s s':AS):Prop where
 t:Wk s.t s'.t
 b:WkB s.b s'.b
section
variable {P:Program} {X:Cx} {φ φ':Fi} {κ κ':Ka} {f:Nat->Ct} {L L':Ct} {s s':AS} {a:Act} {w w':World} {R:Nat->Prop}
theorem RC.wk:∀ {l l':List AV},Wk l l'->∀ {us:List Value},RC w φ κ R l us Ct.z->RC w φ κ R l' us Ct.z
 | _,_,.nil,_,h=>h
 | _,_,.same hw,_,h=>by
  cases h with
  | cons h1 h2 h3=>obtain ⟨rfl,rfl⟩:=Ct.split h3;exact .cons (S:=Ct.z) (T:=Ct.z) h1 (RC.wk hw h2) fun _=>rfl
 | _,_,.de hw,_,h=>by
  cases h with
  | cons h1 h2 h3=>obtain ⟨rfl,rfl⟩:=Ct.split h3;exact .cons (S:=Ct.z) (T:=Ct.z) .de (RC.wk hw h2) fun _=>rfl
 | _,_,.nl hw,_,h=>by
  cases h with
  | cons h1 h2 h3=>obtain ⟨rfl,rfl⟩:=Ct.split h3;exact .cons (S:=Ct.z) (T:=Ct.z) (RV.nil_sl h1) (RC.wk hw h2) fun _=>rfl
theorem WkB.length:∀ {l l':List Sl},WkB l l'->l'.length=l.length
 | _,_,.nil=>rfl
 | _,_,.same h=>by simp [WkB.length h]
 | _,_,.drop h=>by simp [WkB.length h]
 | _,_,.cell _ h=>by simp [WkB.length h]
theorem WkB.y:∀ {l l':List Sl},WkB l l'->∀ (i u:Nat) (J:Jt),l'[i]? = some ⟨u,.y J⟩->l[i]? = some ⟨u,.y J⟩
 | _,_,.nil,_,_,_,h=>h
 | _,_,.same hw,0,_,_,h=>h
 | _,_,.same hw,i + 1,u,J,h=>by simpa using WkB.y hw i u J (by simpa using h)
 | _,_,.drop hw,0,_,_,h=>by simp at h
 | _,_,.drop hw,i + 1,u,J,h=>by simpa using WkB.y hw i u J (by simpa using h)
 | _,_,.cell _ hw,0,_,_,h=>by simp at h
 | _,_,.cell _ hw,i + 1,u,J,h=>by simpa using WkB.y hw i u J (by simpa using h)
theorem WkB.rs:∀ {l l':List Sl},WkB l l'->∀ {n:Nat} {f:Nat->Ct},(∀ (i:Nat) (e:Sl),l[i]? = some e->RS w φ κ R (n + i) e.u e.b (f (n + i))) ->
 ∃ f':Nat->Ct,(∀ (i:Nat) (e:Sl),l'[i]? = some e->RS w φ κ R (n + i) e.u e.b (f' (n + i)))/\(∀ i x,f' i x<=f i x)/\(∀ (i:Nat) (e':Sl),l'[i]? = some e'->∃ e,l[i]? = some e/\e.u=e'.u)
 | _,_,.nil,n,f,_=>⟨f,fun i e h=>by simp at h,fun _ _=>Nat.le_refl _,fun i e h=>by simp at h⟩
 | e0 :: l,_ :: l',.same hw,n,f,h=>by
  obtain ⟨f',h1,h2,h3⟩:=WkB.rs hw (n:=n + 1) (f:=f) fun i e hi=>by have:=h (i + 1) e (by simpa using hi);rwa [show n + 1 + i=n + (i + 1) by omega]
  refine ⟨fun i=>if i=n then f n else f' i,fun i e hi=>?_,fun i x=>?_,fun i e' hi=>?_⟩
  ·cases i with
   | zero=>simp at hi;subst hi;simpa using h 0 e0 rfl
   | succ i=>simp at hi;have:=h1 i e hi;rw [show n + 1 + i=n + (i + 1) by omega] at this;simpa [show ¬ n + (i + 1)=n by omega] using this
  ·dsimp only;split
   ·rename_i h;subst h;exact Nat.le_refl _
   ·exact h2 i x
  ·cases i with
   | zero=>simp at hi;subst hi;exact ⟨e0,rfl,rfl⟩
   | succ i=>simp at hi;simpa using h3 i e' hi
 | ⟨u,B⟩ :: l,_ :: l',.drop hw,n,f,h=>by
  obtain ⟨f',h1,h2,h3⟩:=WkB.rs hw (n:=n + 1) (f:=f) fun i e hi=>by have:=h (i + 1) e (by simpa using hi);rwa [show n + 1 + i=n + (i + 1) by omega]
  refine ⟨fun i=>if i=n then Ct.z else f' i,fun i e hi=>?_,fun i x=>?_,fun i e' hi=>?_⟩
  ·cases i with
   | zero=>simp at hi;subst hi;simp only [Nat.add_zero,if_true];exact .x
   | succ i=>simp at hi;have:=h1 i e hi;rw [show n + 1 + i=n + (i + 1) by omega] at this;simpa [show ¬ n + (i + 1)=n by omega] using this
  ·dsimp only;split
   ·exact Nat.zero_le _
   ·exact h2 i x
  ·cases i with
   | zero=>simp at hi;subst hi;exact ⟨⟨u,B⟩,rfl,rfl⟩
   | succ i=>simp at hi;simpa using h3 i e' hi
 | ⟨u,.c T c⟩ :: l,⟨_,.c _ c'⟩ :: l',.cell hc hw,n,f,h=>by
  obtain ⟨f',h1,h2,h3⟩:=WkB.rs hw (n:=n + 1) (f:=f) fun i e hi=>by have:=h (i + 1) e (by simpa using hi);rwa [show n + 1 + i=n + (i + 1) by omega]
  refine ⟨fun i=>if i=n then f n else f' i,fun i e hi=>?_,fun i x=>?_,fun i e' hi=>?_⟩
  ·cases i with
   | zero=>
    simp at hi;subst hi
    have:=h 0 _ rfl;simp only [Nat.add_zero,if_true] at this ⊢;generalize f n=S at this
    cases this with
    | c a b c d e=>exact .c a b (RC.wk hc c) d e
   | succ i=>simp at hi;have:=h1 i e hi;rw [show n + 1 + i=n + (i + 1) by omega] at this;simpa [show ¬ n + (i + 1)=n by omega] using this
  ·dsimp only;split
   ·rename_i h;subst h;exact Nat.le_refl _
   ·exact h2 i x
  ·cases i with
   | zero=>simp at hi;subst hi;exact ⟨_,rfl,rfl⟩
   | succ i=>simp at hi;simpa using h3 i e' hi
theorem sumF_mono {f g:Nat->Ct} (h:∀ i x,f i x<=g i x) (x:Nat):∀ n,sumF f n x<=sumF g n x
 | 0=>Nat.le_refl _
 | n + 1=>by simp only [sumF];have:=sumF_mono h x n;have:=h n x;omega
theorem SatW.wk (h:SatW X φ κ f L s a w) (hw:Wks s s'):∃ f',SatW X φ κ f' L s' a w:=by
 obtain ⟨f',h1,h2,h3⟩:=WkB.rs hw.b (n:=0) (f:=f) fun i e hi=>by simpa using h.sl i e hi
 have hlen:=hw.b.length;refine ⟨f',RC.wk hw.t h.tm,h.df.b hw.b.y,fun i e hi=>by simpa using h1 i e hi,fun x=>?_,fun x hx=>?_,fun x hx=>?_,h.fr,h.bas,fun i v hv=>h.new i v fun e he=>?_⟩
 ·rw [hlen];have:=h.one x;have:=sumF_mono h2 x s.b.length;omega
 ·rw [hlen] at hx;exact h.own x (by have:=sumF_mono h2 x s.b.length;omega)
 ·rw [hlen];have:=h.rd x hx;have:=sumF_mono h2 x s.b.length;exact ⟨by omega,by omega⟩
 ·have hil:i < s'.b.length:=by rw [hlen];exact (List.getElem?_eq_some_iff.1 he).1
  obtain ⟨e2,h4,h5⟩:=h3 i _ (List.getElem?_eq_getElem hil);rw [he] at h4;injection h4 with h4;subst h4
  rw [h5];exact hv _ (List.getElem?_eq_getElem hil)
theorem Sat.wk (h:Sat X s a w) (hw:Wks s s'):Sat X s' a w:=by
 obtain ⟨X',φ,κ,f,hX,h⟩:=h;obtain ⟨f',h⟩:=h.wk hw;exact ⟨_,φ,κ,f',hX,h⟩
def Gh (s s':AS):Prop:=∀ X a w,Sat X s a w->Sat X s' a w
theorem CP.gh {c:Code} {Q:Exit->AS->Prop} (hg:Gh s s') (h:CP P X c Q s'):CP P X c Q s:=fun a w hs=>h a w (hg X a w hs)
theorem AP.gh {ops:Array Oper} {l:List Oper} {Q:Exit->AS->Prop} (hg:Gh s s') (h:AP P X ops Q l s'):AP P X ops Q l s:=fun a w hs=>h a w (hg X a w hs)
theorem gh_wk (hw:Wks s s'):Gh s s':=fun _ _ _ hs=>hs.wk hw
theorem gh_nil {t e k:Nat} (ht:s.t.getD t .de=.sc (.slice none 0 0)):Gh s ⟨s.t.set t (.hd (newS s.b (.r e k [])).1.1 (newS s.b (.r e k [])).1.2),(newS s.b (.r e k [])).2⟩:=by
 rintro X a w ⟨X',φ,κ,f,hX,h⟩;obtain ⟨φ',κ',f',e1,e2,e3,e4,e5⟩:=h.newS_ (w':=w) (B:=.r e k []) (g:=Ct.z) (L':=Ct.z) none (some (.slice none 0 0)) (Nat.le_refl _) rfl rfl rfl (fun _ _ _=>rfl) (fun φ' κ' j u a b c d=>.r d .ni) (fun x _=>by simp [Ct.z]) (fun x _=>by simp [Ct.z]);have h1:=h.tmp t;rw [ht] at h1;have hv:=RV.sc_inv h1;refine ⟨X',φ',κ',f',hX,e5.retm ?_ rfl⟩
 by_cases htl:t < s.t.length
 ·have:=RC.set_ (i:=t) (RC.hist e1 e2 (fun _ h=>h) h.tm) (RV.hd (φ:=φ') (w:=w) (R:=X'.R) e4 rfl);have hl:=h.size
  have e:a.tmps.toList.set t (.slice none 0 0)=a.tmps.toList:=by
   rw [Array.getD_eq_getD_getElem?] at hv;have htl':t < a.tmps.size:=by omega
   rw [Array.getElem?_eq_getElem htl'] at hv;simp only [Option.getD_some] at hv;apply List.ext_getElem (by simp);intro i h2 h3;rw [List.getElem_set];split
   ·rename_i hi;subst hi;simpa using hv.symm
   ·rfl
  rwa [e] at this
 ·rw [List.set_eq_of_length_le (by omega)];exact RC.hist e1 e2 (fun _ h=>h) h.tm
theorem gh_slot:Gh s ⟨s.t,s.b ++ [⟨0,.x⟩]⟩:=fun _ _ _ ⟨X',φ,κ,f,hX,h⟩=>⟨X',φ,κ,_,hX,h.slot⟩
end
section
variable {P:Program} {X:Cx} {φ φ':Fi} {κ κ':Ka} {f:Nat->Ct} {L L':Ct} {s s':AS} {a:Act} {w w':World} {R:Nat->Prop} {ops:Array Oper} {rest:List Oper} {o:Oper} {av:AV} {Q:Exit->AS->Prop}
theorem tmp_of {ts:Array Value} {d:Nat} {v:Value} (hv:v≠undef) (hc:ts.getD d undef=v):ts[d]? = some v:=by
 rw [Array.getD_eq_getD_getElem?] at hc
 cases h:ts[d]? with
 | none=>rw [h] at hc;exact absurd hc.symm hv
 | some u=>rw [h] at hc;simp at hc;rw [hc]
theorem wanted_bool {a:Act} {j d:Nat} {b c:Bool} (hg:o.guard=some (j,b)) (hd:(ops[j]?).bind (·.dst)=some d) (hc:a.tmps.getD d undef=.bool c):Region.wanted o (yielded ops a.tmps)=(c == b):=by
 have:=tmp_of (v:=.bool c) (by simp [undef]) hc;unfold Region.wanted yielded
 cases c<;>cases b<;>simp [hg,hd,this]
theorem wanted_und {a:Act} {j d:Nat} {b:Bool} (hg:o.guard=some (j,b)) (hd:(ops[j]?).bind (·.dst)=some d) (hc:a.tmps.getD d undef=undef):Region.wanted o (yielded ops a.tmps)=false:=by
 unfold Region.wanted yielded;rw [Array.getD_eq_getD_getElem?] at hc
 cases h:a.tmps[d]? with
 | none=>simp [hg,hd,h]
 | some u=>rw [h] at hc;simp at hc;subst hc;simp [hg,hd,h,undef]
theorem SatW.set_true (h:SatW X φ κ f L s a w) {d:Nat} {c b:Bool} (hs:s.t.getD d .de=.sc (.bool c)) (hc:c=b):SatW X φ κ f L ⟨s.t.set d (.sc (.bool b)),s.b⟩ a w:=by
 subst hc
 have:s.t.set d (.sc (.bool c))=s.t:=by
  apply List.ext_getElem (by simp);intro i h2 h3;rw [List.getElem_set];split
  ·rename_i hi;subst hi
   rw [List.getD_eq_getElem?_getD,List.getElem?_eq_getElem h3] at hs
   simpa using hs.symm
  ·rfl
 rw [this];exact h
theorem AP.gyes {j d:Nat} {b:Bool} (hg:o.guard=some (j,b)) (hd:(ops[j]?).bind (·.dst)=some d) (hs:s.t.getD d .de=.sc (.bool b)) (h:AP P X ops Q ({ o with guard:=none } :: rest) s):AP P X ops Q (o :: rest) s:=by
 rintro a w ⟨X',φ,κ,f,hX,hh⟩;have h1:=hh.tmp d;rw [hs] at h1;have h2:=wanted_bool (a:=a) hg hd (RV.sc_inv h1);have h3:=h a w ⟨X',φ,κ,f,hX,hh⟩;rw [wpL_cons] at h3 ⊢;rw [if_pos (by simp [Region.wanted])] at h3;rw [if_pos (by simpa using h2)];exact h3
theorem AP.gno {j d:Nat} {b c:Bool} (hg:o.guard=some (j,b)) (hd:(ops[j]?).bind (·.dst)=some d) (hs:s.t.getD d .de=.sc (.bool c)) (hn:(c == b)=false) (h:AP P X ops Q rest (s.put o.dst (.tu []))):AP P X ops Q (o :: rest) s:=by
 rintro a w ⟨X',φ,κ,f,hX,hh⟩;have h1:=hh.tmp d;rw [hs] at h1;have h2:=wanted_bool (a:=a) hg hd (RV.sc_inv h1);rw [wpL_cons];rw [if_neg (by rw [h2,hn];simp)];exact h _ _ ⟨X',φ,κ,f,hX,hh.puts o.dst (.tu .nil)⟩
theorem AP.gund {j d:Nat} {b:Bool} (hg:o.guard=some (j,b)) (hd:(ops[j]?).bind (·.dst)=some d) (hs:s.t.getD d .de=.tu []) (h:AP P X ops Q rest (s.put o.dst (.tu []))):AP P X ops Q (o :: rest) s:=by
 rintro a w ⟨X',φ,κ,f,hX,hh⟩;have h1:=hh.tmp d;rw [hs] at h1
 have hu:a.tmps.getD d undef=undef:=by
  generalize a.tmps.getD d undef=v at h1
  cases h1 with|tu hc=>cases hc;rfl
 have h2:=wanted_und (a:=a) hg hd hu;rw [wpL_cons];rw [if_neg (by rw [h2];simp)];exact h _ _ ⟨X',φ,κ,f,hX,hh.puts o.dst (.tu .nil)⟩
theorem AP.gsplit {j d:Nat} {b c:Bool} (hg:o.guard=some (j,b)) (hd:(ops[j]?).bind (·.dst)=some d) (hs:s.t.getD d .de=.sc (.bool c))
 (h1:c=true->AP P X ops Q (o :: rest) ⟨s.t.set d (.sc (.bool true)),s.b⟩) (h2:c=false->AP P X ops Q (o :: rest) ⟨s.t.set d (.sc (.bool false)),s.b⟩):AP P X ops Q (o :: rest) s:=by
 rintro a w ⟨X',φ,κ,f,hX,hh⟩
 cases hc:c with
 | true=>exact h1 hc a w ⟨X',φ,κ,f,hX,hh.set_true hs hc⟩
 | false=>exact h2 hc a w ⟨X',φ,κ,f,hX,hh.set_true hs hc⟩
mutual
def AV.nt:AV->Bool
 | .sl (some _) _ _=>false
 | .ag l=>ntC l
 | .tu l=>ntC l
 | .fn _ l=>ntC l
 | .gd _ a=>a.nt
 | .sc _=>true
 | .sl none _ _=>true
 | .bp _ _ _=>true
 | .hd _ _=>true
 | .ep _ _ _ _ _=>true
 | .rp _ _ _ _=>true
 | .vp _ _ _=>true
 | .pz _=>true
 | .fs _ _=>true
 | .hf _ _=>true
 | .sb _ _ _ _ _ _=>true
 | .de=>true
 | .ob _ _=>false
 | .mo _ _=>false
def ntC:List AV->Bool
 | []=>true
 | a :: l=>a.nt && ntC l
end
mutual
theorem RV.nt:∀ {a:AV} {v:Value} {S:Ct},RV w φ κ R a v S->a.nt=true->S=Ct.z
 | _,_,_,.sc _,_=>rfl
 | _,_,_,.bp _,_=>rfl
 | _,_,_,.ni,_=>rfl
 | _,_,_,.ro _ _ _ _ _,_=>rfl
 | _,_,_,.om _ _ _ _ _ _ _,h=>by simp [AV.nt] at h
 | _,_,_,.hd _ _,_=>rfl
 | _,_,_,.ep _,_=>rfl
 | _,_,_,.rp _ _ _,_=>rfl
 | _,_,_,.vp _ _ _,_=>rfl
 | _,_,_,.pz _ _ _ _,_=>rfl
 | _,_,_,.ag hc _,h=>RC.nt hc (by simpa [AV.nt] using h)
 | _,_,_,.tu hc,h=>RC.nt hc (by simpa [AV.nt] using h)
 | _,_,_,.de,_=>rfl
 | _,_,_,.gt h1,h=>RV.nt h1 (by simpa [AV.nt] using h)
 | _,_,_,.gf,_=>rfl
 | _,_,_,.fs _ _,_=>rfl
 | _,_,_,.ne,_=>rfl
 | _,_,_,.hf _,_=>rfl
 | _,_,_,.sb _ _ _,_=>rfl
 | _,_,_,.fn hc,h=>RC.nt hc (by simpa [AV.nt] using h)
 | _,_,_,.ob _ _ _ _ _,h=>by simp [AV.nt] at h
 | _,_,_,.mo _ _ _ _,h=>by simp [AV.nt] at h
theorem RC.nt:∀ {l:List AV} {us:List Value} {S:Ct},RC w φ κ R l us S->ntC l=true->S=Ct.z
 | _,_,_,.nil,_=>rfl
 | _,_,_,.cons h1 h2 h3,h=>by
  simp only [ntC,Bool.and_eq_true] at h;have e1:=RV.nt h1 h.1;have e2:=RC.nt h2 h.2;subst e1 e2;exact funext fun x=>by rw [h3];simp [Ct.z]
end
end
section
variable {X:Cx} {φ φ':Fi} {κ κ':Ka} {f:Nat->Ct} {L L':Ct} {s s':AS} {a:Act} {w w':World} {R:Nat->Prop} {ops:Array Oper} {rest:List Oper} {o:Oper} {av:AV} {Q:Exit->AS->Prop}
theorem run_nilc {x:Operand} {ad:Addr} {a:Act} (ho:o.op=.nilCheck x) (hv:a.eval x=.pointer (some ad)):(execOp a.eval o).run prog w=.ok (.value (.pointer (some ad))) w:=by
 simp only [execOp,ho,hv];rfl
theorem pq_nilc {x:Operand} {b u off:Nat} (ho:o.op=.nilCheck x) (hx:aev s x=.bp b u off):Pq prog X s o (.bp b u off):=.of_run fun X φ κ f a w h=>by
 have h1:=h.evs hx;generalize hp:a.eval x=p at h1
 cases h1 with|bp hg=>exact ⟨_,.bp hg,fun w' _=>run_nilc ho hp⟩
theorem pq_nilc_rp {x:Operand} {k i off:Nat} {s':List (List AV)} (ho:o.op=.nilCheck x) (hx:aev s x=.rp k s' i off):Pq prog X s o (.rp k s' i off):=.of_run fun X φ κ f a w h=>by
 have h1:=h.evs hx;generalize hp:a.eval x=p at h1
 cases h1 with|rp h1 h2 h3=>exact ⟨_,.rp h1 h2 h3,fun w' _=>run_nilc ho hp⟩
theorem pq_nilc_ep {x:Operand} {b u k i off:Nat} (ho:o.op=.nilCheck x) (hx:aev s x=.ep b u k i off):Pq prog X s o (.ep b u k i off):=.of_run fun X φ κ f a w h=>by
 have h1:=h.evs hx;generalize hp:a.eval x=p at h1
 cases h1 with|ep h1=>exact ⟨_,.ep h1,fun w' _=>run_nilc ho hp⟩
def nilB (op:BinOp) (e:Bool):Option Bool:=
 match op with
 | .eql=>some e
 | .neq=>some (!e)
 | _=>none
theorem run_eq_ptr {P:Program} {T e:TypeId} (hT:P.underlying T=some (.pointer e)) (p:Option Addr) (w:World):(Op.equal T (.pointer p) (.pointer none)).run P w=.ok p.isNone w:=by
 have key:∀ d,(Op.equalIn (d + 1) T (.pointer p) (.pointer none)).run P w=.ok p.isNone w:=fun d=>by
  cases p<;>simp [Op.equalIn,run_underlying hT]
 exact key 9999
theorem run_bin_ptr {op:BinOp} {T T' e:TypeId} {x y:Operand} {a:Act} {p:Option Addr} {r:Bool} (hT:prog.underlying T=some (.pointer e)) (ho:o.op=.binOp op T x y T') (hx:a.eval x=.pointer p) (hy:a.eval y=.pointer none) (hr:nilB op p.isNone=some r) (w:World) :
 (execOp a.eval o).run prog w=.ok (.value (.bool r)) w:=by
 unfold nilB at hr
 cases op<;>simp only [Option.some.injEq,reduceCtorEq] at hr<;>subst hr<;>simp only [execOp,ho,hx,hy] <;>
  simp [eqGuard,binOp,run_eq_ptr hT,go_sem]
theorem pq_nileq {op:BinOp} {T T' e:TypeId} {x y:Operand} {b u off:Nat} {i:TI} {r:Bool} (ho:o.op=.binOp op T x y T') (hx:aev s x=.bp b u off) (hy:aev s y=.sc (.pointer none)) (hr:nilB op false=some r) (hT:tt[T]? = some i/\i.kd=.pt e):Pq prog X s o (.sc (.bool r)):=.of_run fun X φ κ f a w h=>by
 have h1:=h.evs hx;have h2:=h.evc hy;generalize hp:a.eval x=p at h1
 cases h1 with|bp hg=>exact ⟨_,.sc rfl,fun w' _=>run_bin_ptr (ty_pt hT.1 hT.2) ho hp h2 hr w'⟩
theorem pq_nilnil {op:BinOp} {T T' e:TypeId} {x y:Operand} {i:TI} {r:Bool} (ho:o.op=.binOp op T x y T') (hx:aev s x=.sc (.pointer none)) (hy:aev s y=.sc (.pointer none)) (hr:nilB op true=some r) (hT:tt[T]? = some i/\i.kd=.pt e):Pq prog X s o (.sc (.bool r)):=.of_run fun X φ κ f a w h=>by
 have h1:=h.evc hx;have h2:=h.evc hy;exact ⟨_,.sc rfl,fun w' _=>run_bin_ptr (ty_pt hT.1 hT.2) ho h1 h2 hr w'⟩
def bldS (s:AS) (fl:List (Nat×Nat)):List (Nat×Operand)->List AV->List AV
 | [],l=>l
 | (i,x) :: r,l=>bldS s fl r (spl l ((fl.getD i (0,0)).1) (aev s x).cells)
theorem fill_gen {place:Nat->Option (Nat×Nat)}:∀ (parts:List (Nat×Value)) (cs:Array Value),(∀ p∈parts,∃ off sz,place p.1=some (off,sz)/\p.2.cells.size=sz/\off + sz<=cs.size) ->
 Instr.fill place cs parts=some (parts.foldl (fun (l:List Value) p=>spl l ((place p.1).getD (0,0)).1 p.2.cells.toList) cs.toList).toArray
 | [],cs,_=>by simp [Instr.fill]
 | (i,v) :: r,cs,h=>by
  obtain ⟨off,sz,h1,h2,h3⟩:=h (i,v) (by simp);simp only at h1 h2
  have e:v.cells.zipIdx.foldl (fun cs (p:Value×Nat)=>cs.setIfInBounds (off + p.2) p.1) cs=(spl cs.toList off v.cells.toList).toArray:=by
   have:=foldl_spl v.cells.toList 0 off cs;rw [←Array.foldl_toList,Array.toList_zipIdx]
   simpa using this
  rw [Instr.fill];simp only [h1,h2,ne_eq,not_true_eq_false,decide_false,Bool.false_or];rw [if_neg (by simp;omega)];rw [show (v.cells.zipIdx.foldl (fun cs x=>match x with|(c,j)=>cs.setIfInBounds (off + j) c) cs)=v.cells.zipIdx.foldl (fun cs (p:Value×Nat)=>cs.setIfInBounds (off + p.2) p.1) cs from rfl,e]
  rw [fill_gen r _ (fun p hp=>by
   obtain ⟨o',z',h4,h5,h6⟩:=h p (List.mem_cons_of_mem _ hp);exact ⟨o',z',h4,h5,by simp [spl_length];omega⟩)]
  simp [h1]
theorem bldS_rc {fl:List (Nat×Nat)} {place:Nat->Option (Nat×Nat)}:∀ (ps:List (Nat×Operand)) {l:List AV} {vs:List Value},SatW X φ κ f L s a w->RC w φ κ X.R l vs Ct.z->(∀ p∈ps,(aev s p.2).known=true/\place p.1=fl[p.1]?) ->
 RC w φ κ X.R (bldS s fl ps l) ((ps.map fun p=>(p.1,a.eval p.2)).foldl (fun (l:List Value) p=>spl l ((place p.1).getD (0,0)).1 p.2.cells.toList) vs) Ct.z
 | [],l,vs,_,hr,_=>hr
 | (i,x) :: r,l,vs,h,hr,hk=>by
  obtain ⟨hk1,hk2⟩:=hk (i,x) (by simp);obtain ⟨h1,_⟩:=(h.ev x).cells_ hk1
  have e:(fl.getD i (0,0)).1=((place i).getD (0,0)).1:=by
   simp only at hk2;rw [hk2,List.getD_eq_getElem?_getD]
  simp only [bldS,List.map_cons,List.foldl_cons];rw [e];exact bldS_rc r h (hr.spl_ h1) fun p hp=>hk p (List.mem_cons_of_mem _ hp)
theorem bldS_one {place:Nat->Option (Nat×Nat)}:∀ (ps:List (Nat×Operand)) {vs:List Value},SatW X φ κ f L s a w->(∀ v∈vs,v.oneCell'=true)->(∀ p∈ps,(aev s p.2).known=true) ->
 ∀ v∈((ps.map fun p=>(p.1,a.eval p.2)).foldl (fun (l:List Value) p=>spl l ((place p.1).getD (0,0)).1 p.2.cells.toList) vs),v.oneCell'=true
 | [],vs,_,hr,_=>hr
 | (i,x) :: r,vs,h,hr,hk=>by
  obtain ⟨_,h1⟩:=(h.ev x).cells_ (hk (i,x) (by simp));exact bldS_one r h (spl_one hr h1) fun p hp=>hk p (List.mem_cons_of_mem _ hp)
theorem ty_places {T:Nat} {i:TI} {fl:List (Nat×Nat)} (hT:tt[T]? = some i) (hk:i.kd=.st fl) (hfl:fl.all (fun p=>Nat.ble 1 p.2)=true):∃ fs,prog.underlying T=some (.struct fs)/\∀ w,(fs.mapM fun f=>do pure (f.offset,←sizeOf f.type):Sem (Array (Nat×Nat))).run prog w=.ok fl.toArray w:=by
 obtain ⟨d,j,hd,hj,h1,_⟩:=TI.parts (ty hT);rw [hk] at h1
 cases d with
 | struct fs=>
  refine ⟨fs,hd,fun w=>?_⟩;simp only [Kd.is] at h1;have h1:=eq_of_beq h1
  have key:∀ (l:List Field) (r:List (Nat×Nat)),l.map (fun x=>(x.offset,((prog.info? x.type).map (·.size)).getD 0))=r->r.all (fun p=>Nat.ble 1 p.2)=true->(l.mapM (fun f=>do pure (f.offset,←sizeOf f.type):Field->Sem (Nat×Nat))).run prog w=.ok r w:=by
   intro l
   induction l with
   | nil=>rintro r rfl _;rfl
   | cons x l ih=>
    rintro r rfl hr;simp only [List.map_cons,List.all_cons,Bool.and_eq_true] at hr;have h3:=ih _ rfl hr.2
    have h4:(sizeOf x.type).run prog w=.ok (((prog.info? x.type).map (·.size)).getD 0) w:=by
     cases hq:prog.info? x.type with
     | none=>rw [hq] at hr;simp at hr
     | some j=>simp [sizeOf,typeInfo,hq,go_sem]
    rw [List.mapM_cons];simp only [Sem.run_bind,h4,Result.andThen_ok,Sem.run_pure,h3];rfl
  have:=key fs.toList fl h1 hfl;rw [Array.mapM_eq_mapM_toList]
  show Sem.run prog ((List.mapM _ fs.toList) >>= (Sem.pure ∘ List.toArray)) w=_
  rw [Sem.run_bind,this];rfl
 | _=>simp [Kd.is] at h1
theorem pq_build {T:TypeId} {parts:Array (Nat×Operand)} {i:TI} {fl:List (Nat×Nat)} {z:List ZC} (ho:o.op=.build T parts) (hT:tt[T]? = some i) (hk:i.kd=.st fl) (hz:i.zero=some z) (hfl:fl.all (fun p=>Nat.ble 1 p.2)=true)
 (hkn:parts.toList.all (fun p=>(aev s p.2).known && (match fl[p.1]? with|some q=>(aev s p.2).cells.length == q.2 && Nat.ble (q.1 + q.2) z.length|none=>false))=true):Pq prog X s o (.ag (bldS s fl parts.toList (z.map fun c=>.sc c.val))):=.of_run fun X φ κ f a w h=>by
 obtain ⟨d,j,hd,hj,_,_,_,hzz⟩:=TI.parts (ty hT);obtain ⟨zv,hzv,hzc,hzl,hagg,_⟩:=hzz z hz;obtain ⟨fs,hu,hpl⟩:=ty_places hT hk hfl
 have hall:∀ p∈parts.toList,(aev s p.2).known=true/\∃ q,fl[p.1]? = some q/\(aev s p.2).cells.length=q.2/\q.1 + q.2<=z.length:=fun p hp=>by
  have:=List.all_eq_true.1 hkn p hp;simp only [Bool.and_eq_true] at this;refine ⟨this.1,?_⟩;have h2:=this.2;split at h2
  ·rename_i q hq
   simp only [Bool.and_eq_true,beq_iff_eq] at h2;exact ⟨q,hq,h2.1,Nat.le_of_ble_eq_true h2.2⟩
  ·cases h2
 have hz0:RC w φ κ X.R (z.map fun c=>AV.sc c.val) (z.map ZC.val) Ct.z:=RC.of_at (by simp) fun i av hi=>by
  simp only [List.getElem?_map,Option.map_eq_some_iff] at hi ⊢;obtain ⟨c,hc,rfl⟩:=hi;exact ⟨_,⟨c,hc,rfl⟩,.sc (ZC.one c)⟩
 have hz1:∀ v∈z.map ZC.val,v.oneCell'=true:=fun v hv=>by
  obtain ⟨c,_,rfl⟩:=List.mem_map.1 hv;exact ZC.one c
 have hrc:=bldS_rc (fl:=fl) (place:=fun i=>fl.toArray[i]?) parts.toList h hz0 fun p hp=>⟨(hall p hp).1,by simp⟩
 have hon:=bldS_one (place:=fun i=>fl.toArray[i]?) parts.toList h hz1 fun p hp=>(hall p hp).1
 refine ⟨_,.ag hrc hon,fun w' _=>?_⟩;have hzr:(zeroValue T).run prog w'=.ok zv w':=by simp [zeroValue,typeInfo,hj,hzv,go_sem]
 have hfill:Instr.fill (fun i=>fl.toArray[i]?) zv.cells ((parts.map fun (i,x)=>(i,a.eval x)).toList)=some ((parts.toList.map fun p=>(p.1,a.eval p.2)).foldl (fun (l:List Value) (p:Nat×Value)=>spl l ((fl.toArray[p.1]?).getD (0,0)).1 p.2.cells.toList) (z.map ZC.val)).toArray:=by
  rw [fill_gen]
  ·rw [hzc];simp
  ·intro p hp;simp only [Array.toList_map,List.mem_map] at hp;obtain ⟨q,hq,rfl⟩:=hp;obtain ⟨a1,⟨off,sz⟩,a2,a3,a4⟩:=hall q hq;obtain ⟨hc1,_⟩:=(h.ev q.2).cells_ a1;have:=hc1.length;simp at this;refine ⟨off,sz,by simpa using a2,by show (a.eval q.2).cells.size=sz;simp only at a3;omega,?_⟩;have:zv.cells.size=z.length:=by rw [←Array.length_toList,hzc];simp
   simp only at a4;omega
 simp only [execOp,ho,Instr.build,Sem.run_bind,hzr,Result.andThen_ok,run_underlying hu,hpl,hfill];rfl
end
section
variable {X:Cx} {φ φ':Fi} {κ κ':Ka} {f:Nat->Ct} {L L':Ct} {s s':AS} {a:Act} {w w':World} {R:Nat->Prop} {ops:Array Oper} {rest:List Oper} {o:Oper} {av:AV} {Q:Exit->AS->Prop}
theorem pq_mkf {g:Nat} {caps:Array Operand} (ho:o.op=.makeFunc (.func g) #[] caps) (hb:bdC (caps.toList.map (aev s))=false):Pq prog X s o (.fn g (caps.toList.map (aev s))):=.of_run fun X φ κ f a w h=>by
 have h1:=RV.fn (f:=g) (h.evl caps.toList);rw [hb] at h1;refine ⟨_,h1,fun w' _=>?_⟩;unfold fnV;dsimp only;have e:(caps.toList.map a.eval).toArray=caps.map a.eval:=by cases caps;simp
 rw [e];simp only [execOp,ho,Instr.makeFunc];simp [go_sem]
theorem pq_mkm {g:Nat} {x:Operand} (ho:o.op=.makeFunc (.func g) #[x] #[]):Pq prog X s o (.fn g [.sc .nilFunc,aev s x]):=.of_run fun X φ κ f a w h=>by
 refine ⟨_,.fn (.cons (S:=Ct.z) (T:=Ct.z) (.sc rfl) (.cons (S:=Ct.z) (T:=Ct.z) (h.ev x) .nil fun _=>rfl) fun _=>rfl),fun w' _=>?_⟩;simp only [execOp,ho,Instr.makeFunc,bdC,fnV];simp [go_sem]
theorem pq_buildA {T e n k:Nat} {parts:Array (Nat×Operand)} {i ie:TI} {z:List ZC} (ho:o.op=.build T parts) (hT:tt[T]? = some i) (hk:i.kd=.ar n e) (hz:i.zero=some z) (he:tt[e]? = some ie) (hsz:ie.size=k)
 (hkn:parts.toList.all (fun p=>(aev s p.2).known && (aev s p.2).cells.length == k && Nat.ble (p.1 * k + k) z.length)=true):Pq prog X s o (.ag (bldA s k parts.toList (z.map fun c=>.sc c.val))):=.of_run fun X φ κ f a w h=>by
 obtain ⟨d,j,hd,hj,_,_,_,hzz⟩:=TI.parts (ty hT);obtain ⟨zv,hzv,hzc,hzl,hagg,_⟩:=hzz z hz;have hu:=ty_ar hT hk
 have hall:∀ p∈parts.toList,(aev s p.2).known=true/\(aev s p.2).cells.length=k/\p.1 * k + k<=z.length:=fun p hp=>by
  have:=List.all_eq_true.1 hkn p hp;simp only [Bool.and_eq_true,beq_iff_eq] at this;exact ⟨this.1.1,this.1.2,Nat.le_of_ble_eq_true this.2⟩
 have hz0:RC w φ κ X.R (z.map fun c=>AV.sc c.val) (z.map ZC.val) Ct.z:=RC.of_at (by simp) fun i av hi=>by
  simp only [List.getElem?_map,Option.map_eq_some_iff] at hi ⊢;obtain ⟨c,hc,rfl⟩:=hi;exact ⟨_,⟨c,hc,rfl⟩,.sc (ZC.one c)⟩
 have hz1:∀ v∈z.map ZC.val,v.oneCell'=true:=fun v hv=>by
  obtain ⟨c,_,rfl⟩:=List.mem_map.1 hv;exact ZC.one c
 have hrc:=bld_rc (k:=k) parts.toList h hz0 fun p hp=>(hall p hp).1
 have hon:=bld_one (k:=k) parts.toList h hz1 fun p hp=>(hall p hp).1
 refine ⟨_,.ag hrc hon,fun w' _=>?_⟩;have hzr:(zeroValue T).run prog w'=.ok zv w':=by simp [zeroValue,typeInfo,hj,hzv,go_sem]
 have hfill:Instr.fill (fun i=>some (i * k,k)) zv.cells ((parts.map fun (i,x)=>(i,a.eval x)).toList)=some ((parts.toList.map fun p=>(p.1,a.eval p.2)).foldl (fun (l:List Value) (p:Nat×Value)=>spl l (p.1 * k) p.2.cells.toList) (z.map ZC.val)).toArray:=by
  rw [fill_spl]
  ·rw [hzc];simp
  ·intro p hp;simp only [Array.toList_map,List.mem_map] at hp;obtain ⟨q,hq,rfl⟩:=hp;obtain ⟨a1,a2,a3⟩:=hall q hq;obtain ⟨hc1,_⟩:=(h.ev q.2).cells_ a1;have:=hc1.length;simp at this;have h4:zv.cells.size=z.length:=by rw [←Array.length_toList,hzc];simp
   exact ⟨by show (a.eval q.2).cells.size=k;omega,by simp only;omega⟩
 simp only [execOp,ho,Instr.build,Sem.run_bind,hzr,Result.andThen_ok,run_underlying hu,ty_size he,hsz,hfill];rfl
theorem pq_index_ar {T e n:Nat} {x y:Operand} {b u off:Nat} {i ie:TI} {kk:IntKind} {j:Int} (ho:o.op=.indexAddr T x y) (hx:aev s x=.bp b u off) (hy:aev s y=.sc (.int kk j)) (hT:tt[T]? = some i) (hk:i.kd=.ar n e) (he:tt[e]? = some ie)
 (h0:0<=j) (hj:j < n):Pq prog X s o (.bp b u (off + j.toNat * ie.size)):=.of_run fun X φ κ f a w h=>by
 have h1:=h.evs hx;have h2:=h.evc hy;generalize hp:a.eval x=p at h1
 cases h1 with
 | @bp _ _ _ g hg=>
  refine ⟨_,.bp hg,fun w' _=>?_⟩;have hu:=ty_ar hT hk
  have:(Instr.indexAt T (.pointer (some ⟨g,off,none⟩)) (.int kk j)).run prog w'=.ok (.pointer (some ⟨g,off + j.toNat * ie.size,none⟩)) w':=by
   simp [Instr.indexAt,asIntOf,run_underlying hu,ty_size he,h0,hj,addr_mid,Instr.sureAddr,go_sem]
  simp only [execOp,ho,hp,h2,Sem.run_bind,this];rfl
def nz (op:BinOp) (c:Bool):Bool:=
 match op with
 | .eql=>c
 | _=>!c
theorem run_eq_slice {P:Program} {T e:TypeId} (hT:P.underlying T=some (.slice e)) (p:Option Addr) (l c:Nat) (w:World):(Op.equal T (.slice p l c) (.slice none 0 0)).run P w=.ok p.isNone w:=run_equal_slice_nil w T e p l c hT
theorem ap_nilsl {op:BinOp} {T T' e k:TypeId} {x y:Operand} {s1:List (List AV)} {i:TI} (hg:o.guard=none) (ho:o.op=.binOp op T x y T') (hx:aev s x=.sl none k s1) (hy:aev s y=.sc (.slice none 0 0)) (hT:tt[T]? = some i) (hk:i.kd=.sl e) (hop:op=.eql\/op=.neq)
 (K:∀ c:Bool,(c=true->s1=[])->AP prog X ops Q rest (s.put o.dst (.sc (.bool (nz op c))))):AP prog X ops Q (o :: rest) s:=by
 rintro a w ⟨X',φ,κ,f,hX,h⟩;have h2:=h.evc hy;have hv:=h.evs hx;obtain ⟨A,c,hA,hc1,hc2,hc3⟩:=hv.sl_form
 have hnil:A.isNone=true->s1=[]:=fun hn=>by
  have:A=none:=by simpa using hn
  have:=hc3 this;exact List.eq_nil_of_length_eq_zero (by omega)
 have hrun:(execOp a.eval o).run prog w=.ok (.value (.bool (nz op A.isNone))) w:=by
  rcases hop with rfl|rfl<;>simp only [execOp,ho,hA,h2]<;>simp [eqGuard,binOp,run_eq_slice (ty_sl hT hk),nz,go_sem]
 exact wpL_plain hg fun K' hK'=>wpO_val hrun (hK' _ _ (K A.isNone hnil _ _ ⟨X',φ,κ,f,hX,h.puts o.dst (.sc rfl)⟩))
theorem RE.set_ {k:Nat}:∀ {s1:List (List AV)} {us:List Value} {S:Ct},RE w φ κ R k s1 us S->∀ {i off:Nat} {c:List AV} {old av:AV} {v:Value},s1[i]? = some c->c[off]? = some old->old.tree=false->RV w φ κ R av v Ct.z->av.leaf=true->v.oneCell'=true ->
 RE w φ κ R k (s1.set i (c.set off av)) (us.set (i * k + off) v) S
 | _,_,_,.nil,i,off,c,old,av,v,h,_,_,_,_,_=>by simp at h
 | _,_,_,.cons (us:=us) (vs:=vs) h1 hk o b cc,i,off,c,old,av,v,h,ho,ht,hr,hl,h1c=>by
  have hset:∀ {l:List AV} {us:List Value} {S:Ct},RC w φ κ R l us S->(∀ x∈l,x.leaf=true)->∀ {off:Nat},l[off]? = some old->RC w φ κ R (l.set off av) (us.set off v) S:=by
   intro l us S hrc hlf off ho
   induction l generalizing us S off with
   | nil=>simp at ho
   | cons a l ih=>
    cases hrc with
    | cons a1 a2 a3=>
     cases off with
     | zero=>
      simp at ho;subst ho
      have hz:=a1.flz (by have:=hlf a (by simp);cases a<;>first|rfl|(cases this;done)) ht;subst hz;exact .cons (S:=Ct.z) hr a2 a3
     | succ off=>
      simp at ho;exact .cons a1 (ih a2 (fun x hx=>hlf x (List.mem_cons_of_mem _ hx)) ho) a3
  have hoff:off < k:=by
   have h8:=h1.length
   cases i with
   | zero=>simp at h;subst h;have:=(List.getElem?_eq_some_iff.1 ho).1;omega
   | succ i=>
    simp at h;obtain ⟨cs,T,hrc,hl',_⟩:=RE.at' b h;have:=hrc.length;have:=(List.getElem?_eq_some_iff.1 ho).1;omega
  cases i with
  | zero=>
   simp at h;subst h
   simp only [List.set_cons_zero,Nat.zero_mul,Nat.zero_add];rw [List.set_append_left _ _ (by omega)];exact .cons (hset h1 o.2 ho) (by simpa using hk) ⟨fun u hu=>(List.mem_or_eq_of_mem_set hu).elim (o.1 u) (fun e=>e ▸ h1c),fun x hx=>(List.mem_or_eq_of_mem_set hx).elim (o.2 x) (fun e=>e ▸ hl)⟩ b cc
  | succ i=>
   simp at h;simp only [List.set_cons_succ];rw [List.set_append_right _ _ (by rw [Nat.add_mul];omega)];rw [show (i + 1) * k + off - us.length=i * k + off by rw [Nat.add_mul];omega];exact .cons h1 hk o (RE.set_ b h ho ht hr hl h1c) cc
theorem ap_storeE {T e k:Nat} {x y:Operand} {b u i off:Nat} {s1:List (List AV)} {c:List AV} {old:AV} {ti:TI} (hg:o.guard=none) (ho:o.op=.store T x y) (hx:aev s x=.ep b u k i off) (hs:s.b[b]? = some ⟨u,.r e k s1⟩) (hy:aev s y=av) (hlk:(av.leaf && av.known)=true)
 (hT:tt[T]? = some ti) (hn:ti.size=1) (hcl:s1[i]? = some c/\c[off]? = some old) (ht:old.tree=false)
 (K:AP prog X ops Q rest (AS.put ⟨s.t,s.b.set b ⟨u,.r e k (s1.set i (c.set off av))⟩⟩ o.dst (.tu []))):AP prog X ops Q (o :: rest) s:=
 .runU hg (fun X φ κ f a w h=>by
  obtain ⟨hc,hco⟩:=hcl;obtain ⟨hl,hkn⟩:=Bool.and_eq_true_iff.1 hlk;have hyv:=h.evs hy
  have h1c:(a.eval y).oneCell'=true:=by
   generalize a.eval y=p at hyv
   cases hyv<;>first|assumption|rfl|(cases hl;done)|(cases hkn;done)
  have hcells:(a.eval y).cells.toList=[a.eval y]:=by
   generalize a.eval y=p at h1c
   cases p<;>first|rfl|(cases h1c;done)
  obtain ⟨d,j,hd,hj,_,hjs,_⟩:=TI.parts (ty hT);have h1:=h.evs hx;have h2:=h.sl b _ hs;have hbl:b < s.b.length:=(List.getElem?_eq_some_iff.1 hs).1;have hown:∀ x,f b x≠0->x < w.heap.size:=fun x hx=>h.blk (.inr ⟨b,hbl,hx⟩)
  have hone:∀ x,f b x<=1:=fun x=>by have:=sumF_le f x _ b hbl;have:=h.one x;omega
  generalize hS0:f b=S0 at h2 hown hone;generalize hp:a.eval x=p at h1
  cases h1 with
  | @ep _ _ _ _ _ g n c' hκ=>
   cases h2 with
   | r hκ' hv=>
    rw [hκ] at hκ';injection hκ' with hκ';subst hκ'
    cases hv with
    | ne=>simp at hc
    | @om _ _ _ _ _ cur us S _ hre hh hle hm hsz htk hSx=>
     obtain ⟨cs,T0,hrc,hkl,hlf,hat⟩:=RE.at' hre hc;have hil:i < s1.length:=(List.getElem?_eq_some_iff.1 hc).1;have hoff:off < k:=by have:=hrc.length;have:=(List.getElem?_eq_some_iff.1 hco).1;omega
     have hgl:g < w.heap.size:=hh.lt
     have hpos:i * k + off < s1.length * k:=by
      have:(i + 1) * k<=s1.length * k:=Nat.mul_le_mul_right k hil;rw [Nat.add_mul] at this;omega
     have hpos2:i * k + off < cur.size:=by
      have:s1.length * k<=cur.size:=by rw [hsz];exact Nat.mul_le_mul_right k hle
      omega
     have hth:w.there g (i * k + off) 1:=fun j hj=>by
      have:j=0:=by omega
      subst this;refine ⟨?_,hh.frozen (by omega)⟩;rw [hh.cell];simp;omega
     have hrun:=run_storeAny (P:=prog) (T:=T) (b:=g) (off:=i * k + off) (v:=a.eval y) w (n:=1) (by rw [hj];simp [hjs,hn]) (by rw [←Array.length_toList,hcells];rfl) (by rw [hcells];intro u hu;simp at hu;subst hu;exact h1c) hth
     have hrun':(execOp a.eval o).run prog w=.ok .skip (w.setCells g (i * k + off) [a.eval y]):=by
      simp only [execOp,ho,hp,Sem.run_bind,hrun,hcells];rfl
     have hh':Mk (w.setCells g (i * k + off) [a.eval y]) g (cur.setIfInBounds (i * k + off) (a.eval y)) e:=by
      obtain ⟨z,hz1,hz2⟩:=hh;exact ⟨z,by simp [World.setCells,World.setCell,Array.getElem?_modify,hz1],by simpa using hz2⟩
     have hblkR:∀ x,X.R x->(w.setCells g (i * k + off) [a.eval y]).heap[x]? = w.heap[x]?:=fun x hx=>by
      have h3:=h.not_rd hx;have h4:=sumF_le f x _ b hbl;rw [hS0] at h4;have h5:=hSx x;have hne:x≠g:=by rintro rfl;simp at h5;omega
      exact heap_setCells_ne g _ _ w x hne
     have hblkS:∀ x,S x≠0->(w.setCells g (i * k + off) [a.eval y]).heap[x]? = w.heap[x]?:=fun x hx=>by
      have h5:=hSx x;have h6:=hone x;have hne:x≠g:=by rintro rfl;simp at h5;omega
      exact heap_setCells_ne g _ _ w x hne
     have hre2:=RE.keep hblkR (RE.set_ hre hc hco ht hyv hl h1c) hblkS;refine ⟨_,φ,κ,updF f b (fun x=>(if x=g then 1 else 0) + S x),hrun',SatW.puts ?_ o.dst (RV.tu RC.nil)⟩;refine h.turn (w':=w.setCells g (i * k + off) [a.eval y]) hs (fun _ _ _ h=>h) (fun _ _ _ h=>h) (by rw [size_setCells];exact Nat.le_refl _) (os_setCells' g _ _ w) (tape_setCells g _ _ w) (out_setCells g _ _ w) ?_ (.r hκ ?_) (g:=fun x=>(if x=g then 1 else 0) + S x) (L':=Ct.z) ?_ ?_ (Nat.le_refl _) (fun _ _ _ h=>h) (fun _ _ _ h=>h)
     ·intro x hx h0;rw [hS0] at h0;have:=hSx x;have hne:x≠g:=by rintro rfl;simp at this;omega
      exact heap_setCells_ne g _ _ w x hne
     ·have:=RV.om (e:=e) hre2 hh' (by simpa using hle) hm (by simpa using hsz) (by
       rw [Array.toList_setIfInBounds,List.take_set,List.length_set,htk]) (T:=fun x=>(if x=g then 1 else 0) + S x) fun _=>rfl
      simpa using this
     ·intro x hx;rw [hS0];have:=hSx x;simp only [Ct.z];omega
     ·intro x hx;simp only [Ct.z]
      have h7:S x=0:=by
       by_cases h8:S x=0
       ·exact h8
       ·have:=hown x (by rw [hSx];omega);omega
      rw [h7];split
      ·omega
      ·simp) K
end
section
variable {P:Program} {X:Cx} {s:AS} {Q:Exit->AS->Prop}
end
mutual
def AV.nb:AV->Bool
 | .sc _=>true
 | .sl _ _ _=>true
 | .ag l=>nbC l
 | .tu l=>nbC l
 | .fs _ _=>true
 | _=>false
def nbC:List AV->Bool
 | []=>true
 | a :: l=>a.nb && nbC l
end
mutual
theorem RnV.of_nb {ks:List (Nat×Nat)}:∀ {a:AV},a.nb=true->RnV ks a a
 | .sc _,_=>.leaf rfl
 | .sl _ _ _,_=>.leaf rfl
 | .ag l,h=>.ag (RnC.of_nb (by simpa [AV.nb] using h))
 | .tu l,h=>.tu (RnC.of_nb (by simpa [AV.nb] using h))
 | .fs _ _,_=>.fs
theorem RnC.of_nb {ks:List (Nat×Nat)}:∀ {l:List AV},nbC l=true->RnC ks l l
 | [],_=>.nil
 | a :: l,h=>by
  simp only [nbC,Bool.and_eq_true] at h;exact .cons (RnV.of_nb h.1) (RnC.of_nb h.2)
end
def AV.fl1b:AV->Bool
 | .ag l=>l.all AV.fl
 | a=>a.fl
def AV.fl2b:AV->Bool
 | .tu l=>l.all AV.fl1b
 | a=>a.fl1b
theorem AV.fl1_of {a:AV} (h:a.fl1b=true):a.fl1:=by
 cases a<;>first|exact h|(intro x hx;exact List.all_eq_true.1 h x hx)
theorem AV.fl2_of:∀ {a:AV},a.fl2b=true->a.fl2
 | .tu _,h=>fun x hx=>AV.fl1_of (List.all_eq_true.1 h x hx)
 | .ag l,h=>AV.fl1_of (a:=.ag l) h
 | .sc _,h=>h
 | .sl _ _ _,h=>h
 | .bp _ _ _,h=>h
 | .hd _ _,h=>h
 | .ep _ _ _ _ _,h=>h
 | .rp _ _ _ _,h=>h
 | .vp _ _ _,h=>h
 | .pz _,h=>h
 | .gd _ _,h=>h
 | .fs _ _,h=>h
 | .fn _ _,h=>h
 | .hf _ _,h=>h
 | .sb _ _ _ _ _ _,h=>h
 | .de,h=>h
 | .ob _ _,h=>h
 | .mo _ _,h=>h
theorem fl1_all {l:List AV} (h:l.all AV.fl1b=true):∀ x∈l,x.fl1:=fun x hx=>AV.fl1_of (List.all_eq_true.1 h x hx)
section
variable {P:Program} {X:Cx} {s:AS} {ops:Array Oper} {rest:List Oper} {o:Oper} {Q:Exit->AS->Prop}
theorem ap_callB (n:Nat) {fn:Nat} {fo:Operand} {cap:List AV} {xs:Array Operand} {tys:Array TypeId} {al:List AV} {r r1:AV} (ks:List (Nat×Nat)) {bs bs2:List Bx} {b1 bf b3:List Sl}
 (hg:o.guard=none) (ho:o.op=.call { callee:=.value fo,args:=xs,argTypes:=tys }) (hfo:aev s fo=.fn fn cap) (hc:AC P fn al bs (fun v bs'=>v=r/\bs'=bs2))
 (hp:PasC false ks [] s.b (fnA cap (xs.toList.map (aev s))) al b1) (hout:Out b1 ks bs bf) (hl:Nat.beq bs2.length (ks.length + n)=true) (hbk:Bk (plc n bf).2 (ks ++ (plc n bf).1) bs2 b3) (hrn:RnV (ks ++ (plc n bf).1) r r1) (hfl:r1.fl2b=true)
 (K:AP P X ops Q rest (AS.put ⟨s.t,(opnR r1 b3).2⟩ o.dst (opnR r1 b3).1)):AP P X ops Q (o :: rest) s:=
 ap_call false hg ho hfo hc (PasC.nobf bf hp) hout (fun h=>by cases h)
  (by rintro r bs' ⟨rfl,rfl⟩;exact ⟨n,r1,b3,Nat.eq_of_beq_eq_true hl,hbk,hrn,AV.fl2_of hfl,K⟩)
theorem ap_callX {fn:Nat} {fo:Operand} {cap:List AV} {xs:Array Operand} {tys:Array TypeId} {al:List AV} {r:AV} {bf:List Sl}
 (hg:o.guard=none) (ho:o.op=.call { callee:=.value fo,args:=xs,argTypes:=tys }) (hfo:aev s fo=.fn fn cap) (hc:AC P fn al [] (fun v bs'=>v=r/\bs'=[]))
 (hp:PasC false [] [] s.b (fnA cap (xs.toList.map (aev s))) al bf) (hnb:r.nb=true) (hfl:r.fl2b=true)
 (K:AP P X ops Q rest (AS.put ⟨s.t,(opnR r bf).2⟩ o.dst (opnR r bf).1)):AP P X ops Q (o :: rest) s:=
 ap_callB 0 [] hg ho hfo hc hp .nil rfl .nil (RnV.of_nb hnb) hfl K
theorem ap_callL {fn:Nat} {fo:Operand} {cap:List AV} {xs:Array Operand} {tys:Array TypeId} {al:List AV} {r:AV}
 (hg:o.guard=none) (ho:o.op=.call { callee:=.value fo,args:=xs,argTypes:=tys }) (hfo:aev s fo=.fn fn cap) (hc:AC P fn al [] (fun v bs'=>v=r/\bs'=[]))
 (hp:PasC true [] s.b s.b (fnA cap (xs.toList.map (aev s))) al s.b) (hnr:NR r) (hnb:r.nb=true) (hfl:r.fl2b=true)
 (K:AP P X ops Q rest (AS.put ⟨s.t,(opnR r s.b).2⟩ o.dst (opnR r s.b).1)):AP P X ops Q (o :: rest) s:=
 ap_call true (ks:=[]) hg ho hfo hc hp .nil (by rintro _ r bs' ⟨rfl,rfl⟩;exact ⟨hnr,by simp⟩)
  (by rintro r bs' ⟨rfl,rfl⟩;exact ⟨0,r,s.b,rfl,.nil,RnV.of_nb hnb,AV.fl2_of hfl,K⟩)
end
section
variable {X:Cx} {s:AS} {o:Oper}
theorem pq_index_sb {T e:Nat} {x y:Operand} {b u k off n c:Nat} {i ie:TI} {kk:IntKind} {j:Int} (ho:o.op=.indexAddr T x y) (hx:aev s x=.sb b u k off n c) (hy:aev s y=.sc (.int kk j)) (hT:tt[T]? = some i) (hk:i.kd=.sl e) (he:tt[e]? = some ie) (hsz:ie.size=k)
 (h0:0<=j) (hj:j < n):Pq prog X s o (.bp b u (off + j.toNat * k)):=.of_run fun X φ κ f a w h=>by
 have h1:=h.evs hx;have h2:=h.evc hy;generalize hv:a.eval x=v at h1
 cases h1 with
 | @sb _ _ _ _ _ _ g hφ _ _=>
  refine ⟨_,.bp hφ,fun w' _=>?_⟩;have:=run_index (g:=g) (off:=off) (n:=n) (c:=c) (k:=kk) hT hk he h0 hj w';simp only [execOp,ho,hv,h2,Sem.run_bind,this,hsz];simp [go_sem]
theorem pq_len_sb {T e:Nat} {x:Operand} {b u k off n c:Nat} {i:TI} (ho:o.op=.call { callee:=.builtin .len,args:=#[x],argTypes:=#[T] }) (hx:aev s x=.sb b u k off n c) (hT:tt[T]? = some i) (hk:i.kd=.sl e):Pq prog X s o (.sc (.int .i64 n)):=.of_run fun X φ κ f a w h=>by
 have h1:=h.evs hx;generalize hv:a.eval x=v at h1
 cases h1 with
 | sb hφ _ _=>exact ⟨_,.sc rfl,fun w' _=>run_len (ty:=0) ho fun ty=>by rw [hv];exact len_ty (tys:=#[T]) hT hk ty w'⟩
end
def scs:List AV->Option (List Value)
 | []=>some []
 | .sc v :: l=>(scs l).map (v :: ·)
 | _=>none
theorem RC.scs {w:World} {φ:Fi} {κ:Ka} {R:Nat->Prop}:∀ {l:List AV} {us vs:List Value} {S:Ct},RC w φ κ R l us S->scs l=some vs->us=vs
 | [],_,vs,_,h,hs=>by cases h;simpa [Go.Proofs.YtnjllcnjcpfbhaaGreat.scs] using hs
 | .sc v :: l,_,vs,_,h,hs=>by
  cases h with
  | cons h1 h2 _=>
   simp only [Go.Proofs.YtnjllcnjcpfbhaaGreat.scs,Option.map_eq_some_iff] at hs;obtain ⟨vs',h3,rfl⟩:=hs;rw [RV.sc_inv h1,RC.scs h2 h3]
theorem pq_eqAg {X:Cx} {s:AS} {o:Oper} {op:BinOp} {T T':TypeId} {x y:Operand} {l l':List AV} {vs us:List Value} {e r:Bool} (ho:o.op=.binOp op T x y T') (hx:aev s x=.ag l) (hy:aev s y=.ag l') (hl:scs l=some vs) (hl':scs l'=some us)
 (hgd:prog.eqGuardType prog.depth T=false) (hrun:∀ w,(Op.equal T (.agg vs.toArray) (.agg us.toArray)).run prog w=.ok e w) (hr:nilB op e=some r):Pq prog X s o (.sc (.bool r)):=.of_run fun X φ κ f a w h=>by
 have h1:=h.evs hx;have h2:=h.evs hy;generalize hp:a.eval x=p at h1;generalize hq:a.eval y=q at h2
 cases h1 with
 | ag a1 _=>
  cases h2 with
  | ag a2 _=>
   rw [RC.scs a1 hl] at hp;rw [RC.scs a2 hl'] at hq;refine ⟨_,.sc rfl,fun w' _=>?_⟩
   have hg2:∀ op,(eqGuard op T x y (.agg vs.toArray) (.agg us.toArray)).run prog w'=.ok () w':=fun op=>by
    unfold eqGuard
    cases op<;>simp [hgd,go_sem,program,Sem.run,Sem.run_bind]
   unfold nilB at hr
   cases op<;>simp only [Option.some.injEq,reduceCtorEq] at hr<;>subst hr<;>simp only [execOp,ho,hp,hq,Sem.run_bind,hg2,Result.andThen_ok,binOp,hrun,Sem.run_pure]
section
variable {X:Cx} {φ φ':Fi} {κ κ':Ka} {f:Nat->Ct} {L L':Ct} {s s':AS} {a:Act} {w w':World} {R:Nat->Prop} {ops:Array Oper} {rest:List Oper} {o:Oper} {Q:Exit->AS->Prop}
theorem pq_slice_hf {T e k b u e':Nat} {x hi mx:Operand} {s1:List (List AV)} {i ie:TI} (ho:o.op=.slice T x none (some hi) (some mx)) (hx:aev s x=.hd b u) (hs:s.b[b]? = some ⟨u,.r e' k s1⟩) (hT:tt[T]? = some i) (hk:i.kd=.sl e) (he:tt[e]? = some ie)
 (hhi:Bd s (some hi) 0 s1.length) (hmx:Bd s (some mx) 0 s1.length):Pq prog X s o (.hf b u):=.of_run fun X φ κ f a w h=>by
 obtain ⟨A,c,hA,hc1,hc2,hc3⟩:=(h.hdv hx hs).sl_form;have h1:=h.evs hx;rw [hA] at h1;have hκ:κ b u=some (.slice A s1.length c):=by cases h1 with|hd h _=>exact h
 have some_:∀ {y:Operand} {d:Nat},Bd s (some y) 0 d->∃ k,(some y).map a.eval=some (.int k d):=fun hb=>by
  cases hb with
  | int hx=>exact ⟨_,by rw [Option.map_some,h.evc hx]⟩
  | lit hx hz=>subst hz;exact ⟨_,by rw [Option.map_some,h.evc hx]⟩
 have hb:=fun w=>run_bounds (n:=s1.length) (c:=c) (l:=0) (h:=s1.length) (m:=s1.length) (lo:=none) (hi:=(some hi).map a.eval) (mx:=(some mx).map a.eval) (.inl ⟨rfl,rfl⟩) (.inr (some_ hhi)) (.inr (some_ hmx)) (Nat.zero_le _) (Nat.le_refl _) hc1 w
 refine ⟨_,.hf hκ,fun w' _=>?_⟩;have:=run_slice (A:=A) (n:=s1.length) (c:=c) (l:=0) (h:=s1.length) (m:=s1.length) (lo:=none) (hi:=(some hi).map a.eval) (mx:=(some mx).map a.eval) hT hk he hb w'
 have e:(if s1.length=0 then A else A.map (·.add (0 * ie.size)))=A:=by
  split
  ·rfl
  ·cases A<;>simp [Addr.add]
 rw [e] at this;simp only [execOp,ho,hA,Option.map_none,Sem.run_bind,this];rfl
theorem run_append_hf {T e k:Nat} {i ie:TI} {s1 s2:List (List AV)} {A:Option Addr} {c:Nat} {sv:Value} {S1 S2:Ct} {us2:List Value} (hT:tt[T]? = some i) (hk:i.kd=.sl e) (he:tt[e]? = some ie) (hz:ie.zero.isSome=true) (hsz:ie.size=k) (hk0:0 < k)
 (hv:RV w φ κ R (.sl (some e) k s1) (.slice A s1.length c) S1) (h2:RE w φ κ R k s2 us2 S2) (hsv:(sv=.slice none 0 0/\us2=[])\/∃ A c,sv=.slice (some A) s2.length c/\∀ j u,us2[j]? = some u->w.cell? (A.add j)=some u)
 (hR:∀ x,R x->x < w.heap.size/\S1 x=0/\S2 x=0) (hS:∀ x,S1 x + S2 x<=1) (hSw:∀ x,S1 x + S2 x≠0->x < w.heap.size) (hlen:s1.length + s2.length<=1000000000) (hby:ie.bytes<=100000) (hm:0 < s2.length) (ty:TypeId) :
 ∃ v' w' S',(Builtin.append_ #[T,T] ty #[.slice A s1.length s1.length,sv]).run prog w=.ok v' w'/\(∀ φ' κ',RV w' φ' κ' R (.sl (some e) k (s1 ++ s2)) v' S')/\(∀ x,x < w.heap.size->S1 x + S2 x=0->w'.heap[x]? = w.heap[x]?) /\
  w.heap.size<=w'.heap.size/\w'.os=w.os/\w'.tape=w.tape/\w'.output=w.output/\(∀ x,x < w.heap.size->S' x<=S1 x + S2 x)/\(∀ x,w.heap.size<=x->S' x<=1/\(S' x≠0->x < w'.heap.size)):=by
 obtain ⟨d,j,hd,hj,_,hjs,hjb,hzz⟩:=TI.parts (Go.Proofs.YtnjllcnjcpfbhaaGreat.ty he);obtain ⟨z,hz'⟩:=Option.isSome_iff_exists.1 hz;obtain ⟨zv,hzv,hzc,hzl,_⟩:=hzz z hz';have hsl:=ty_sl hT hk;have hzs:zv.cells.size=k:=by rw [←Array.length_toList,hzc];simp [hzl,hsz]
 have hl2:=h2.length
 cases hA:A with
 | none=>
  subst hA;generalize hnn:s1.length=nn at hv
  cases hv with
  | ni=>
   have:=run_append_rv (w:=w) (φ:=φ) (κ:=κ) (R:=R) (v:=.slice none 0 0) (S1:=Ct.z) hT hk he hz hsz hk0 (.ni (k:=k)) h2 hsv (fun x hx=>⟨(hR x hx).1,rfl,(hR x hx).2.2⟩) hS hSw hlen hby ty
   simpa using this
 | some ad=>
  subst hA
  have hrow:∃ us1 S3,RE w φ κ R k s1 us1 S3/\(∀ x,S3 x<=S1 x)/\∀ j u,us1[j]? = some u->w.cell? (ad.add j)=some u:=by
   generalize hnn:s1.length=nn at hv
   cases hv with
   | ne=>exact ⟨[],Ct.z,.nil,fun _=>Nat.le_refl _,fun j u hj=>by simp at hj⟩
   | @om _ _ _ g cap cur us S _ hre hh hle hmx hsz' htk hSx=>
    refine ⟨us,S,hre,fun x=>by rw [hSx];omega,fun j u hj=>?_⟩;rw [addr_mid,hh.cell (0 + j)];rw [←htk,List.getElem?_take] at hj;split at hj
    ·simpa using hj
    ·cases hj
  obtain ⟨us1,S3,hre1,hS3,hcell1⟩:=hrow;rcases hsv with ⟨rfl,rfl⟩|⟨A2,c2,rfl,hcell⟩
  ·have h9:s2.length * k=0:=by simpa using hl2.symm
   have:0 < s2.length * k:=Nat.mul_pos hm hk0;omega
  ·obtain ⟨v',w',hrun,ho',hg⟩:=run_append_arg_grows (P:=prog) w T ty e j zv k ie.bytes hsl hj hzv (by rw [hjs,hsz]) hjb hzs hk0 ad s1.length s1.length us1 hre1.length hcell1 A2 s2.length c2 us2 hl2
    hcell (by omega) (by unfold maxLen;omega) (by
     have:(s1.length + s2.length) * ie.bytes<=1000000000 * 100000:=Nat.mul_le_mul hlen hby;omega)
   have hkeepR:∀ x,R x->w'.heap[x]? = w.heap[x]?:=fun x hx=>hg.block x (hR x hx).1 (by simp)
   have hkS:∀ x,S3 x + S2 x≠0->w'.heap[x]? = w.heap[x]?:=fun x hx=>hg.block x (hSw x (by have:=hS3 x;omega)) (by simp)
   have hre2:=RE.append (RE.keep hkeepR hre1 fun x hx=>hkS x (by omega)) (RE.keep hkeepR h2 fun x hx=>hkS x (by omega)) (U:=fun x=>S3 x + S2 x) fun x=>rfl
   rcases ho'.2 with ⟨rfl,h0⟩|⟨g,cap,cur,rfl,hgl,hh,hle',hmx',hsz',htk⟩
   ·omega
   ·have hgw':g < w'.heap.size:=(Array.getElem?_eq_some_iff.1 hh).1;refine ⟨_,w',fun x=>(if x=g then 1 else 0) + (S3 x + S2 x),hrun,fun φ' κ'=>?_,fun x hx h0=>hg.block x hx (by simp),hg.size,hg.os,hg.tape,hg.output,fun x hx=>?_,fun x hx=>?_⟩
    ·have:=RV.ow (e:=e) (RE.any φ' κ' hre2) hh (by rw [List.length_append];exact hle') hmx' hsz' (by rw [List.length_append];exact htk) (T:=fun x=>(if x=g then 1 else 0) + (S3 x + S2 x)) fun _=>rfl
     rw [List.length_append] at this;exact this
    ·dsimp only;rw [if_neg (by omega)];have:=hS3 x;omega
    ·dsimp only
     have h5:S3 x + S2 x=0:=by
      by_cases h6:S3 x + S2 x=0
      ·exact h6
      ·have:=hSw x (by have:=hS3 x;omega);omega
     rw [h5];split
     ·rename_i e;subst e;exact ⟨by omega,fun _=>hgw'⟩
     ·simp
theorem ap_appendH {T e k b u:Nat} {x y:Operand} {s1:List (List AV)} {i ie:TI} {b1:List Sl} {s2:List (List AV)} (hg:o.guard=none) (ho:o.op=.call { callee:=.builtin .append,args:=#[x,y],argTypes:=#[T,T] }) (hx:aev s x=.hf b u) (hs:s.b[b]? = some ⟨u,.r e k s1⟩)
 (hT:tt[T]? = some i) (hk:i.kd=.sl e) (he:tt[e]? = some ie) (hz:ie.zero.isSome=true) (hsz:ie.size=k) (hk0:Nat.ble 1 k=true) (hby:Nat.ble ie.bytes 100000=true) (hlen:s1.length + s2.length<=1000000000) (hm:0 < s2.length)
 (hy:(aev s y=.sl none k s2/\b1=s.b)\/∃ b2 u2,aev s y=.hd b2 u2/\s.b[b2]? = some ⟨u2,.r e k s2⟩/\Nat.beq b2 b=false/\b1=s.b.set b2 ⟨u2,.x⟩)
 (K:AP prog X ops Q rest (AS.put ⟨s.t,b1.set b ⟨u + 1,.r e k (s1 ++ s2)⟩⟩ o.dst (.hd b (u + 1)))):AP prog X ops Q (o :: rest) s:=
 .run hg (fun X φ κ f a w h=>by
  have hk0:=Nat.le_of_ble_eq_true hk0;have hby:=Nat.le_of_ble_eq_true hby;have hbl:b < s.b.length:=(List.getElem?_eq_some_iff.1 hs).1
  obtain ⟨A,c,hκ,hva,hv⟩:∃ A c,κ b u=some (.slice A s1.length c)/\a.eval x=.slice A s1.length s1.length/\RV w φ κ X.R (.sl (some e) k s1) (.slice A s1.length c) (f b):=by
   have h1:=h.evs hx;have h2:=h.sl b _ hs;generalize a.eval x=p at h1
   cases h1 with
   | hf hκ=>
    cases h2 with
    | r hκ' hv=>
     rw [hκ] at hκ';injection hκ' with e;subst e
     obtain ⟨A',c',e2,_⟩:=hv.sl_form
     injection e2 with e3 e4 e5
     subst e3 e4 e5;exact ⟨_,_,hκ,rfl,hv⟩
  have hsrc:∃ f1 S2 us2,SatW X φ κ f1 S2 ⟨s.t,b1⟩ a w/\b1[b]? = some ⟨u,.r e k s1⟩/\f1 b=f b/\RE w φ κ X.R k s2 us2 S2/\((a.eval y=.slice none 0 0/\us2=[])\/∃ A c,a.eval y=.slice (some A) s2.length c/\∀ j u,us2[j]? = some u->w.cell? (A.add j)=some u):=by
   rcases hy with ⟨hy,rfl⟩|⟨b2,u2,hy,hs2,hne,rfl⟩
   ·have h1:=h.evs hy;refine ⟨f,Ct.z,?_⟩;generalize a.eval y=p at h1
    cases h1 with
    | ni=>exact ⟨[],h,hs,rfl,.nil,.inl ⟨rfl,rfl⟩⟩
    | ne=>exact ⟨[],h,hs,rfl,.nil,.inr ⟨_,_,rfl,fun j u hj=>by simp at hj⟩⟩
    | ro hre _ _ _ hc=>exact ⟨_,h,hs,rfl,hre,.inr ⟨_,_,rfl,fun j u hj=>by rw [addr_mid];exact hc j u hj⟩⟩
   ·have hne:=Nat.ne_of_beq_eq_false hne;have h1:=h.hdv hy hs2;obtain ⟨_,ht⟩:=h.take hs2 .x fun _ _=>.x
    have hb1:(s.b.set b2 ⟨u2,.x⟩)[b]? = some ⟨u,.r e k s1⟩:=by rw [List.getElem?_set_ne hne];exact hs
    have hf1:updF f b2 Ct.z b=f b:=by simp [updF,Ne.symm hne]
    generalize hp:a.eval y=p at h1;generalize hF:f b2=F at h1 ht
    cases h1 with
    | ni=>exact ⟨_,Ct.z,[],ht.drop fun x=>by simp [Ct.z],hb1,hf1,.nil,.inl ⟨rfl,rfl⟩⟩
    | ne=>exact ⟨_,Ct.z,[],ht.drop fun x=>by simp [Ct.z],hb1,hf1,.nil,.inr ⟨_,_,rfl,fun j u hj=>by simp at hj⟩⟩
    | @om _ _ _ g cap cur us S _ hre hh hle hm hsz' htk hSx=>
     refine ⟨_,S,us,ht.drop fun x=>by (try dsimp only);rw [hSx];simp only [Ct.z];omega,hb1,hf1,hre,.inr ⟨⟨g,0,none⟩,cap,rfl,fun j u hj=>?_⟩⟩;rw [addr_mid,hh.cell (0 + j)];rw [←htk,List.getElem?_take] at hj;split at hj
     ·simpa using hj
     ·cases hj
  obtain ⟨f1,S2,us2,h1,hb1,hf1,hre2,hsv⟩:=hsrc;have hsum:=fun x=>sumF_le f1 x b1.length b (List.getElem?_eq_some_iff.1 hb1).1
  obtain ⟨v',w',S',hrun,hrv,hblk,hsz',hos,htp,hou,hS1,hS2⟩:=run_append_hf (R:=X.R) hT hk he hz hsz hk0 hv hre2 hsv (fun x hx=>by
   have a1:=h1.not_rd hx;have a2:=hsum x;rw [hf1] at a2;exact ⟨h.blk (.inl hx),by dsimp only at a1;omega,by dsimp only at a1;omega⟩) (fun x=>by
   have a1:=h1.one x;have a2:=hsum x;rw [hf1] at a2;dsimp only at a1;omega) (fun x hx=>by
   have a1:=h1.own x;have a2:=hsum x;rw [hf1] at a2;dsimp only at a1;exact (a1 (by omega)).1) hlen hby hm o.type
  have hrun':(execOp a.eval o).run prog w=.ok (.value v') w':=by
   simp only [execOp,ho,resolve,invoke,builtin,Sem.run_bind,Sem.run_pure,Result.andThen_ok,List.map_toArray,List.map_cons,List.map_nil,hva,hrun]
  have hnone:=h1.new b (u + 1) (fun e he=>by rw [hb1] at he;injection he with he;subst he;simp)
  have hκ':∀ b' v g,κ b' v=some g->(κ.on b (u + 1) (some v')) b' v=some g:=fun b' v g hg=>by
   unfold Ka.on
   by_cases hc:b'=b/\v=u + 1
   ·rw [hc.1,hc.2,hnone.2] at hg;cases hg
   ·rw [if_neg hc];exact hg
  have e2:(κ.on b (u + 1) (some v')) b (u + 1)=some v':=by simp [Ka.on]
  have ht:=h1.turn (w':=w') (φ':=φ) (κ':=κ.on b (u + 1) (some v')) (u:=u + 1) (B:=.r e k (s1 ++ s2)) (g:=S') (L':=Ct.z) hb1 (fun _ _ _ h=>h) hκ' hsz' hos htp hou (fun x hx h0=>by rw [hf1] at h0;exact hblk x hx h0) (.r e2 (hrv _ _))
   (fun x hx=>by rw [hf1];have:=hS1 x hx;simp only [Ct.z];omega) (fun x hx=>by have:=hS2 x hx;simp only [Ct.z];exact ⟨by omega,fun h0=>this.2 (by omega)⟩) (by simp) (fun _ _ _ h=>h) (fun i v hv hn=>by
     unfold Ka.on;rw [if_neg (by omega)];exact hn)
  have hv1:v'.oneCell'=true:=by obtain ⟨A,c,rfl,_⟩:=(hrv φ κ).sl_form;rfl
  exact ⟨v',w',φ,_,_,hrun',ht.puts o.dst (.hd e2 hv1)⟩) K
end
section
variable {P:Program} {X:Cx} {s:AS} {ops:Array Oper} {rest:List Oper} {Q:Exit->AS->Prop} {Qa:AS->Prop} {d:Option Nat} {ty:Nat} {pos:String} {aft:Array Edge} {g:Option (Nat×Bool)}
theorem AP.k_nil (h:AP P X ops Q [] s):AP P X ops Q [] s:=h
theorem CP.k_reg {id:Nat} {l:List Oper} {y:Code} (h:CP P X (.seq (.region id l.toArray false) y) Q s):CP P X (.seq (.region id l.toArray false) y) Q s:=h
theorem CP.k_drw {id:Nat} {l:List Oper} {y:Code} (h:CP P X (.seq (.region id l.toArray true) y) Q s):CP P X (.seq (.region id l.toArray true) y) Q s:=h
theorem CP.k_reg1 {id:Nat} {l:List Oper} (h:CP P X (.region id l.toArray false) Q s):CP P X (.region id l.toArray false) Q s:=h
theorem CP.k_drw1 {id:Nat} {l:List Oper} (h:CP P X (.region id l.toArray true) Q s):CP P X (.region id l.toArray true) Q s:=h
theorem CP.k_cond {c:Operand} {x y:Code} (h:CP P X (.cond c x y) Q s):CP P X (.cond c x y) Q s:=h
end
theorem roe_n:roE []=[]:=rfl
theorem roe_c {c:List AV} {s:List (List AV)}:roE (c :: s)=roC c :: roE s:=rfl
theorem roc_n:roC []=[]:=rfl
theorem roc_c {a:AV} {l:List AV}:roC (a :: l)=a.ro :: roC l:=rfl
theorem ros_c {v:Value}:(AV.sc v).ro=.sc v:=rfl
theorem ros_l {o:Option TypeId} {k:Nat} {s:List (List AV)}:(AV.sl o k s).ro=.sl none k (roE s):=rfl
theorem map_tk {α:Type} {f:α->List AV} {l:List α} {n:Nat}:(l.map f).take n=(l.take n).map f:=List.map_take.symm
theorem map_dr {α:Type} {f:α->List AV} {l:List α} {n:Nat}:(l.map f).drop n=(l.drop n).map f:=List.map_drop.symm
def nmv:=PLift.up (A2 @List.length_map.{0,0} (A2 @ac_sb (A2 @roe_n (A2 @roe_c (A2 @roc_n (A2 @roc_c (A2 @ros_c (A2 @ros_l (A2 @map_tk (A2 @map_dr (A2 @Nat.sub_zero (A2 @List.drop_zero.{0} (A2 @ov_hd (A2 @ov_fn (A2 @oc_fn (A2 @or_fn (A2 @ap_some (A2 @ap_none (A2 @fx_nil (A2 @fx_x (A2 @fx_c (A2 @fx_r (A2 @fx_o (A2 @fx_f (A2 @fx_w (A2 @fx_m (A2 @oc_ob (A2 @oc_mo (A2 @ov_ob (A2 @ov_mo (A2 @or_ob (A2 @or_mo (A2 @oc_nil (A2 @oc_sc (A2 @oc_sl (A2 @oc_tr (A2 @oc_bp (A2 @oc_de (A2 @ov_sc (A2 @ov_sl (A2 @ov_tr (A2 @ov_bp (A2 @ov_de (A2 @ov_ag (A2 @ol_nil (A2 @ol_cons (A2 @or_sc (A2 @or_sl (A2 @or_tr (A2 @or_bp (A2 @or_de (A2 @or_ag (A2 @or_tu (A2 @ac_ag (A2 @ac_sc (A2 @ac_sl (A2 @ac_hd (A2 @ac_bp (A2 @ac_fn (A2 @ae_f (A2 @ae_t (A2 @ae_i (A2 @ae_b (A2 @ae_s (A2 @ae_l (A2 @ae_p (A2 @List.set_cons_succ.{0} (A2 @List.set_cons_zero.{0} (A2 @List.length_cons.{0} (A2 @List.length_nil.{0} (A2 @List.replicate_succ.{0} (A2 @List.replicate_zero.{0} (A2 @List.cons_append.{0} (A2 @List.nil_append.{0} (A2 @Nat.zero_add (A2 @Nat.add_zero (A2 @List.getD_cons_succ.{0} (A2 @List.getD_cons_zero.{0} (A2 @List.map_cons.{0,0} (A2 @List.map_nil.{0,0} (A2 @List.drop_succ_cons.{0} (A2 @List.drop_zero.{0} (A2 @List.take_succ_cons.{0} (A2 @List.take_zero.{0} (A2 @List.range_zero (A2 @List.range_one (A2 @Int.toNat_natCast (A2 @Int.toNat_zero (A2 @List.toList_toArray.{0} (A2 @Nat.zero_mul @Nat.one_mul))))))))))))))))))))))))))))))))))))))))))))))))))))))))))))))))))))))))))))))))))))))))))
theorem nm:type_of% nmv.down:=nmv.down
def depsOk (b:List Bool) (o:Oper):Bool:=o.after.toList.all fun e=>!Region.binds .any e || b.getD e.on false
def closedB:List Oper->List Bool->List Bool->Bool
 | [],_,_=>true
 | o :: l,b,x :: xs=>(!x || depsOk b o) && closedB l b xs
 | _ :: _,_,[]=>true
def fwdB:Nat->List Oper->Bool
 | _,[]=>true
 | n,o :: l=>o.after.toList.all (fun e=>!Region.binds .any e || Nat.blt e.on n) && fwdB (n + 1) l
theorem closedB.at_ {b:List Bool}:∀ {l:List Oper} {xs:List Bool} {i:Nat} {o:Oper},closedB l b xs=true->l[i]? = some o->xs[i]? = some true->depsOk b o=true
 | [],_,_,_,_,h,_=>by simp at h
 | _ :: _,[],_,_,_,_,h=>by simp at h
 | o' :: l,x :: xs,0,o,h,ho,hx=>by
  simp at ho hx;subst ho hx
  simp only [closedB,Bool.and_eq_true] at h
  simpa using h.1
 | o' :: l,x :: xs,i + 1,o,h,ho,hx=>by
  simp only [closedB,Bool.and_eq_true] at h;exact closedB.at_ h.2 (by simpa using ho) (by simpa using hx)
theorem closedB.mk {b:List Bool}:∀ {l:List Oper} {xs:List Bool},(∀ (i:Nat) (o:Oper),l[i]? = some o->xs[i]? = some true->depsOk b o=true)->closedB l b xs=true
 | [],_,_=>by simp [closedB]
 | _ :: _,[],_=>by simp [closedB]
 | o' :: l,x :: xs,h=>by
  simp only [closedB,Bool.and_eq_true];refine ⟨?_,closedB.mk fun i o h1 h2=>h (i + 1) o (by simpa using h1) (by simpa using h2)⟩
  cases x with
  | false=>rfl
  | true=>simpa using h 0 o' rfl rfl
theorem depsOk.mono {b:List Bool} {o:Oper} {i:Nat} (h:depsOk b o=true):depsOk (b.set i true) o=true:=by
 unfold depsOk at *;rw [List.all_eq_true] at *;intro e he;have:=h e he;simp only [Bool.or_eq_true] at this ⊢;refine this.imp id fun h1=>?_
 rw [List.getD_eq_getElem?_getD] at h1 ⊢;rw [List.getElem?_set];split
 ·split
  ·rfl
  ·rename_i h2 h3;subst h2
   rw [List.getElem?_eq_none (by omega)] at h1;simp at h1
 ·exact h1
theorem fwdB.at_:∀ {n:Nat} {l:List Oper} {i:Nat} {o:Oper},fwdB n l=true->l[i]? = some o->∀ e∈o.after.toList,Region.binds .any e=true->e.on < n + i
 | _,[],_,_,_,h,_,_,_=>by simp at h
 | n,o' :: l,0,o,h,ho,e,he,hb=>by
  simp at ho;subst ho
  simp only [fwdB,Bool.and_eq_true] at h;have:=List.all_eq_true.1 h.1 e he;rw [hb] at this;have:e.on < n:=by simpa using this
  omega
 | n,o' :: l,i + 1,o,h,ho,e,he,hb=>by
  simp only [fwdB,Bool.and_eq_true] at h;have:=fwdB.at_ h.2 (by simpa using ho) e he hb;omega
theorem not_all {b:List Bool} (h:b≠List.replicate b.length true):∃ i:Nat,b[i]? = some false/\∀ j,j < i->b[j]? = some true:=by
 induction b with
 | nil=>exact absurd rfl h
 | cons x xs ih=>
  cases x with
  | false=>exact ⟨0,rfl,fun j hj=>by omega⟩
  | true=>
   obtain ⟨i,h1,h2⟩:=ih fun h3=>h (by rw [List.length_cons,List.replicate_succ,←h3])
   refine ⟨i + 1,by simpa using h1,fun j hj=>?_⟩
   cases j with
   | zero=>rfl
   | succ j=>simpa using h2 j (by omega)
theorem filter_set:∀ {b:List Bool} {i:Nat},b[i]? = some false->(b.filter (fun x=>!x)).length=((b.set i true).filter (fun x=>!x)).length + 1
 | [],_,h=>by simp at h
 | x :: xs,0,h=>by simp at h;subst h;simp
 | x :: xs,i + 1,h=>by
  have:=filter_set (b:=xs) (i:=i) (by simpa using h)
  cases x<;>simp only [List.set_cons_succ,List.filter_cons,Bool.not_true,Bool.not_false,if_true,List.length_cons,Bool.false_eq_true,if_false]<;>omega
section
variable {P:Program} {X:Cx} {s:AS} {Q:Exit->AS->Prop}
def StepsP (P:Program) (X:Cx) (ops:Array Oper) (I:List Bool->AS) (b:List Bool):Nat->List Oper->Prop
 | _,[]=>True
 | i,o :: l=>(b.getD i true=false->depsOk b o=true->AP P X ops (fun e s'=>e=.normal/\s'=I (b.set i true)) [o] (I b))/\StepsP P X ops I b (i + 1) l
theorem StepsP.at_ {ops:Array Oper} {I:List Bool->AS} {b:List Bool}:∀ {l:List Oper} {n i:Nat} {o:Oper},StepsP P X ops I b n l->l[i]? = some o->b.getD (n + i) true=false->depsOk b o=true ->
 AP P X ops (fun e s'=>e=.normal/\s'=I (b.set (n + i) true)) [o] (I b)
 | [],_,_,_,_,h=>by simp at h
 | o' :: l,n,0,o,h,ho=>by simp at ho;subst ho;exact h.1
 | o' :: l,n,i + 1,o,h,ho=>by
  intro h1 h2;have e:n + (i + 1)=n + 1 + i:=by omega
  rw [e] at h1 ⊢;exact StepsP.at_ h.2 (by simpa using ho) h1 h2
theorem wpOp_of_list {ρ:Option Nat} {ops:Array Oper} {K:Exit->Act->World->Prop} {Q':Exit->Act->World->Prop} {i:Nat} {o:Oper} {a:Act} {w:World} (hi:ops[i]? = some o) (h:wpL ρ P ops K [o] a w) (hK:∀ e a w,K e a w->e=.normal):wpOpIn (Fw ρ) 0 P ops Q' i (fun a w=>K .normal a w) a w:=by
 unfold wpOpIn;rw [hi];simp only;rw [wpL_cons] at h;split
 ·rename_i hw
  rw [if_pos hw] at h;exact wpO_turn hK (fun _ _ _ h=>h) h
 ·rename_i hw
  rw [if_neg hw] at h;exact ⟨fun _ _=>Fw_fn _ _,h⟩
theorem any_of_steps {l:List Oper} {I:List Bool->AS} (hf:fwdB 0 l=true) (hst:∀ b:List Bool,b.length=l.length->closedB l b b=true->StepsP P X l.toArray I b 0 l) (hend:∀ a w,Sat X (I (List.replicate l.length true)) a w->lift X Q .normal a w) :
 ∀ (n:Nat) (b:List Bool) (a:Act) (w:World),b.length=l.length->closedB l b b=true->(b.filter (fun x=>!x)).length<=n->Sat X (I b) a w->wpAnyIn (Fw X.ρ) 0 P .any l.toArray (lift X Q) n b.toArray a w:=by
 intro n
 have hdep:∀ (b:List Bool) (o:Oper),depsOk b o=true↔∀ e∈o.after,Region.binds .any e=true->b.toArray.getD e.on false=true:=fun b o=>by
  unfold depsOk;rw [List.all_eq_true];simp only [Array.mem_toList_iff,Bool.or_eq_true,Bool.not_eq_true'];constructor
  ·intro h e he hb;rcases h e he with h|h
   ·rw [hb] at h;cases h
   ·simpa [Array.getD_eq_getD_getElem?,List.getD_eq_getElem?_getD] using h
  ·intro h e he
   cases hb:Region.binds .any e with
   | false=>exact .inl rfl
   | true=>refine .inr ?_;have:=h e he hb;simpa [Array.getD_eq_getD_getElem?,List.getD_eq_getElem?_getD] using this
 have hnone:∀ (b:List Bool),b.length=l.length->Region.ready .any l.toArray b.toArray=[]->b=List.replicate l.length true:=fun b hb hr=>by
  by_cases hall:b=List.replicate b.length true
  ·rw [hb] at hall;exact hall
  ·obtain ⟨i,h1,h2⟩:=not_all hall;have hi:i < l.length:=by rw [←hb];exact (List.getElem?_eq_some_iff.1 h1).1
   have:i∈Region.ready .any l.toArray b.toArray:=by
    refine mem_ready.2 ⟨by simp [Array.getD_eq_getD_getElem?,h1],l[i],by simp [hi],fun e he hbi=>?_⟩;have:=fwdB.at_ hf (List.getElem?_eq_getElem hi) e (by simpa using he) hbi;have:=h2 e.on (by omega);simp [Array.getD_eq_getD_getElem?,this]
   rw [hr] at this;cases this
 induction n with
 | zero=>
  intro b a w hb hc hn hs
  have hall:b=List.replicate l.length true:=by
   by_cases hall:b=List.replicate b.length true
   ·rw [hb] at hall;exact hall
   ·obtain ⟨i,h1,_⟩:=not_all hall;have:false∈b.filter (fun x=>!x):=List.mem_filter.2 ⟨List.mem_of_getElem? h1,rfl⟩;have:0 < (b.filter (fun x=>!x)).length:=List.length_pos_of_mem this;omega
  refine ⟨?_,by subst hall;exact hend a w hs⟩
  cases hr:Region.ready .any l.toArray b.toArray with
  | nil=>rfl
  | cons i rs=>
   have hi:i∈Region.ready .any l.toArray b.toArray:=by rw [hr];simp
   obtain ⟨h1,o,h2,_⟩:=mem_ready.1 hi;have hil:i < l.length:=by simpa using (Array.getElem?_eq_some_iff.1 h2).1
   rw [hall] at h1;simp [Array.getD_eq_getD_getElem?,hil] at h1
 | succ n ih=>
  intro b a w hb hc hn hs;refine ⟨fun hr=>by rw [hnone b hb hr] at hs;exact hend a w hs,fun i hi=>?_⟩;obtain ⟨h1,o,h2,h3⟩:=mem_ready.1 hi;have hil:i < l.length:=by simpa using (Array.getElem?_eq_some_iff.1 h2).1
  have h2':l[i]? = some o:=by simpa using h2
  have hbi:b[i]? = some false:=by
   rw [List.getElem?_eq_getElem (by omega)]
   simpa [Array.getD_eq_getD_getElem?,hb,hil] using h1
  have hd:=(hdep b o).2 h3;have hap:=(hst b hb hc).at_ (i:=i) h2' (by rw [Nat.zero_add,List.getD_eq_getElem?_getD,hbi];rfl) hd;rw [Nat.zero_add] at hap;have hop:=wpOp_of_list (Q':=lift X Q) h2 (hap a w hs) fun e a w ⟨s',h,_⟩=>h.1
  refine wpOpIn_mono (fun a' w' ⟨s',⟨_,h5⟩,h6⟩=>?_) hop;subst h5;have:=ih (b.set i true) a' w' (by simpa using hb) ?_ ?_ h6
  ·simpa using this
  ·refine closedB.mk fun j o' hj hx=>?_
   rw [List.getElem?_set] at hx
   by_cases hij:i=j
   ·subst hij;rw [h2'] at hj;injection hj with hj;subst hj
    exact depsOk.mono hd
   ·rw [if_neg hij] at hx;exact depsOk.mono (closedB.at_ hc hj hx)
  ·have:=filter_set hbi;omega
theorem cp_drawI {id:Nat} {l:List Oper} (J:AS->List Bool->AS) (hm:P.follows .mixedOrders=true) (hf:fwdB 0 l=true) (h0:J s (List.replicate l.length false)=s)
 (hst:∀ b:List Bool,b.length=l.length->closedB l b b=true->StepsP P X l.toArray (J s) b 0 l) (hend:Q .normal (J s (List.replicate l.length true))):CP P X (.region id l.toArray true) Q s:=by
 refine fun a w hs=>wpIn_region_any hm ?_
 obtain ⟨X',φ,κ,f,hX,hs⟩:=hs;rw [←h0] at hs
 have:=any_of_steps (Q:=Q) hf hst (fun a w hs=>⟨_,hend,hs⟩) l.length (List.replicate l.length false) a _ (by simp) (closedB.mk fun i o _ hx=>by
  rw [List.getElem?_replicate] at hx;split at hx<;>simp at hx) (by simp) ⟨X',φ,κ,f,hX,hs.world (w':={ w with drawn:=w.drawn + 1 }) rfl rfl rfl rfl⟩
 simpa using this
end
section
variable {X:Cx} {s:AS} {Q:Exit->AS->Prop} {w:World} {ops:Array Oper} {rest l:List Oper} {o:Oper}
theorem run_fneq {op:BinOp} {T T':TypeId} {x y:Operand} {a:Act} {v:Value} {r e:Bool} (hT:(match prog.underlying T with|some (.func _ _ _)=>true | _=>false)=true) (ho:o.op=.binOp op T x y T') (hx:a.eval x=v) (hv:(v=.nilFunc/\e=true)\/((∃ c f g,v=.func c f g)/\e=false)) (hy:a.eval y=.nilFunc) (hr:nilB op e=some r) (w:World) :
 (execOp a.eval o).run prog w=.ok (.value (.bool r)) w:=by
 obtain ⟨p1,p2,p3,hu⟩:∃ p1 p2 p3,prog.underlying T=some (.func p1 p2 p3):=by
  split at hT
  ·exact ⟨_,_,_,by assumption⟩
  ·cases hT
 have heq:(Op.equal T v .nilFunc).run prog w=.ok e w:=by
  have key:∀ d,(Op.equalIn (d + 1) T v .nilFunc).run prog w=.ok e w:=fun d=>by
   rcases hv with ⟨rfl,rfl⟩|⟨⟨c,f,g,rfl⟩,rfl⟩<;>simp [Op.equalIn,run_underlying hu]
  exact key 9999
 unfold nilB at hr;rcases hv with ⟨rfl,rfl⟩|⟨⟨c,f,g,rfl⟩,rfl⟩ <;>
 (cases op<;>simp only [Option.some.injEq,reduceCtorEq] at hr<;>subst hr<;>simp only [execOp,ho,hx,hy] <;>
   simp [eqGuard,binOp,heq,go_sem])
theorem pq_fneqN {op:BinOp} {T T':TypeId} {x y:Operand} {r:Bool} (ho:o.op=.binOp op T x y T') (hx:aev s x=.sc .nilFunc) (hy:aev s y=.sc .nilFunc) (hr:nilB op true=some r) (hT:(match prog.underlying T with|some (.func _ _ _)=>true | _=>false)=true):Pq prog X s o (.sc (.bool r)):=.of_run fun X φ κ f a w h=>
 ⟨_,.sc rfl,fun w' _=>run_fneq hT ho (h.evc hx) (.inl ⟨rfl,rfl⟩) (h.evc hy) hr w'⟩
theorem RC.setw {R:Nat->Prop} {φ:Fi} {κ:Ka} {w:World}:∀ {l:List AV} {us:List Value} {S:Ct} {d:Nat} {a a':AV},RC w φ κ R l us S->l[d]? = some a->(∀ v S,RV w φ κ R a v S->RV w φ κ R a' v S)->RC w φ κ R (l.set d a') us S
 | [],_,_,_,_,_,_,h,_=>by simp at h
 | _ :: _,_,_,0,_,_,.cons h1 h2 h3,h,hw=>by simp at h;subst h;exact .cons (hw _ _ h1) h2 h3
 | _ :: l,_,_,d + 1,_,_,.cons h1 h2 h3,h,hw=>.cons h1 (RC.setw h2 (by simpa using h) hw) h3
theorem gh_nilc {j u off:Nat} {T e k:Nat} {c:List AV} (hj:(newS s.b (.r e k [])).2[j]? = some ⟨u,.c T c⟩) (hc:c[off]? = some (.sc (.slice none 0 0))) :
 Gh s ⟨s.t,(newS s.b (.r e k [])).2.set j ⟨u,.c T (c.set off (.hd (newS s.b (.r e k [])).1.1 (newS s.b (.r e k [])).1.2))⟩⟩:=by
 rintro X a w ⟨X',φ,κ,f,hX,h⟩;obtain ⟨φ',κ',f',e1,e2,e3,e4,e5⟩:=h.newS_ (w':=w) (B:=.r e k []) (g:=Ct.z) (L':=Ct.z) none (some (.slice none 0 0)) (Nat.le_refl _) rfl rfl rfl (fun _ _ _=>rfl) (fun φ' κ' j u a b c d=>.r d .ni) (fun x _=>by simp [Ct.z]) (fun x _=>by simp [Ct.z]);have hjl:=(List.getElem?_eq_some_iff.1 hj).1;refine ⟨X',φ',κ',f',hX,{ tm:=e5.tm,df:=e5.df.set rfl,sl:=fun i e' hi=>?_,one:=fun x=>?_,own:=fun x hx=>?_,rd:=fun x hx=>by simpa using e5.rd x hx,fr:=e5.fr,bas:=e5.bas,new:=fun i v hv=>e5.new i v fun e' he=>?_ }⟩
 ·rw [List.getElem?_set] at hi;split at hi
  ·rename_i hij;subst hij
   injection hi with hi;subst hi
   have h2:=e5.sl j _ hj;generalize f' j=S at h2
   cases h2 with
   | c a b c d e=>exact .c a b (RC.setw c hc fun v S hv=>by cases hv;exact .hd e4 rfl) d e
  ·exact e5.sl i e' hi
 ·simpa using e5.one x
 ·exact e5.own x (by simpa using hx)
 ·by_cases hij:j=i
  ·subst hij;rw [hj] at he;injection he with he;subst he
   exact hv ⟨u,.c T (c.set off (.hd (newS s.b (.r e k [])).1.1 (newS s.b (.r e k [])).1.2))⟩ (by rw [List.getElem?_set];simp [hjl])
  ·exact hv e' (by rw [List.getElem?_set_ne hij];exact he)
end
def rowK:Kd->Bool
 | .st _=>true
 | .ar _ _=>true
 | _=>false
def ldS (s:AS) (p:AV) (T:Nat):Option (AV×Prop):=
 match p,tt[T]? with
 | .bp b u off,some i=>
  match s.b[b]? with
  | some ⟨v,.c _ l⟩=>
   match rowK i.kd with
   | true=>match Nat.ble (off + i.size) l.length with
    | true=>some (.ag ((l.drop off).take i.size),v=u)
    | false=>none
   | false=>match l[off]? with
    | some av=>some (av,v=u)
    | none=>none
  | _=>none
 | _,_=>none
def fdS (p:AV) (T n:Nat):Option (AV×Prop):=
 match tt[T]? with
 | some i=>
  match i.kd with
  | .st fl=>
   match fl[n]? with
   | some (o,z)=>
    match Nat.ble 1 z,p with
    | true,.bp b u off=>some (.bp b u (off + o),True)
    | true,.rp k r j off=>some (.rp k r j (off + o),True)
    | true,.ep b u k j off=>some (.ep b u k j (off + o),True)
    | _,_=>none
   | none=>none
  | _=>none
 | none=>none
def biS (op:BinOp) (T:Nat) (x y:AV):Option (AV×Prop):=
 match x,y with
 | .sc (.int k i),.sc (.int k' j)=>
  match binI op k i j with
  | some v=>some (.sc v,k'=k)
  | none=>match op with
   | .quo=>some (.sc (.int k (k.wrap (i.tdiv j))),k'=k/\j≠0)
   | .rem=>some (.sc (.int k (i.tmod j)),k'=k/\j≠0)
   | .shl=>some (.sc (.int k (k.wrap (i * 2 ^ (min j.toNat k.bits)))),0<=j)
   | .shr=>some (.sc (.int k (i.fdiv (2 ^ (min j.toNat k.bits)))),0<=j)
   | _=>none
 | .sc (.bool p),.sc (.bool q)=>
  match binB op p q,tt[T]? with
  | some r,some i=>some (.sc (.bool r),i.kd=.bo)
  | _,_=>none
 | .bp _ _ _,.sc (.pointer none)=>
  match nilB op false,tt[T]? with
  | some r,some i=>match i.kd with
   | .pt _=>some (.sc (.bool r),True)
   | _=>none
  | _,_=>none
 | .sc (.pointer none),.sc (.pointer none)=>
  match nilB op true,tt[T]? with
  | some r,some i=>match i.kd with
   | .pt _=>some (.sc (.bool r),True)
   | _=>none
  | _,_=>none
 | _,_=>none
def ixS (s:AS) (p y:AV) (T:Nat):Option (AV×Prop):=
 match tt[T]?,y with
 | some i,.sc (.int _ j)=>
  match i.kd,p with
  | .sl e,.sl none k r=>match tt[e]? with
   | some ie=>some (.rp k r j.toNat 0,ie.size=k/\0<=j/\j < r.length)
   | none=>none
  | .sl e,.hd b u=>match tt[e]?,s.b[b]? with
   | some ie,some ⟨v,.r _ k r⟩=>some (.ep b u k j.toNat 0,v=u/\ie.size=k/\0<=j/\j < r.length)
   | _,_=>none
  | .sl e,.sb b u k off n _=>match tt[e]? with
   | some ie=>some (.bp b u (off + j.toNat * k),ie.size=k/\0<=j/\j < (n:Int))
   | none=>none
  | .ar n e,.bp b u off=>match tt[e]? with
   | some ie=>some (.bp b u (off + j.toNat * ie.size),0<=j/\j < (n:Int))
   | none=>none
  | _,_=>none
 | _,_=>none
def lnS (s:AS) (p:AV) (T:Nat):Option (Int×Prop):=
 match tt[T]? with
 | some i=>
  match i.kd,p with
  | .sl _,.sl _ _ r=>some (r.length,True)
  | .sl _,.hd b u=>match s.b[b]? with
   | some ⟨v,.r _ _ r⟩=>some (r.length,v=u)
   | _=>none
  | .sl _,.fs _ r=>some (r.length,True)
  | .sl _,.sb _ _ _ _ n _=>some (n,True)
  | .sl _,.sc (.slice none 0 0)=>some (0,True)
  | .sr,.sc (.string b)=>some (b.size,True)
  | _,_=>none
 | none=>none
def bdS (s:AS) (T:Nat) (parts:List (Nat×Operand)):Option (AV×Prop):=
 match tt[T]? with
 | some i=>
  match i.kd,i.zero with
  | .st fl,some z=>
   match fl.all (fun p=>Nat.ble 1 p.2),parts.all (fun p=>(aev s p.2).known && (match fl[p.1]? with|some q=>(aev s p.2).cells.length == q.2 && Nat.ble (q.1 + q.2) z.length|none=>false)) with
   | true,true=>some (.ag (bldS s fl parts (z.map fun c=>.sc c.val)),True)
   | _,_=>none
  | .ar _ e,some z=>
   match tt[e]? with
   | some ie=>
    match parts.all (fun p=>(aev s p.2).known && (aev s p.2).cells.length == ie.size && Nat.ble (p.1 * ie.size + ie.size) z.length) with
    | true=>some (.ag (bldA s ie.size parts (z.map fun c=>.sc c.val)),True)
    | false=>none
   | none=>none
  | _,_=>none
 | none=>none
def bdv (s:AS) (d:Int):Option Operand->Option Int
 | none=>some d
 | some x=>match aev s x with
  | .sc (.int _ j)=>some j
  | _=>none
def slS (s:AS) (T:Nat) (p:AV) (lo hi mx:Option Operand):Option (AV×Prop):=
 match tt[T]? with
 | some i=>
  match i.kd with
  | .sl e=>
   match tt[e]?,p with
   | some ie,.sl none k r=>
    match bdv s 0 lo,bdv s r.length hi,mx with
    | some l,some h,none=>some (.sl none k ((r.drop l.toNat).take (h.toNat - l.toNat)),ie.size=k/\0<=l/\l<=h/\h<=r.length)
    | some l,some h,some m=>match bdv s 0 (some m),hi with
     | some m',some _=>some (.fs k ((r.drop l.toNat).take (h.toNat - l.toNat)),ie.size=k/\0<=l/\l<=h/\h<=r.length/\m'=h)
     | _,_=>none
    | _,_,_=>none
   | some ie,.hd b u=>
    match s.b[b]?,lo,hi,mx with
    | some ⟨v,.r _ _ r⟩,none,some h,some m=>match bdv s 0 (some h),bdv s 0 (some m) with
     | some h',some m'=>some (.hf b u,v=u/\h'=r.length/\m'=r.length)
     | _,_=>none
    | _,_,_,_=>none
   | _,_=>none
  | _=>none
 | none=>none
def stp (s:AS):Op->Option (AV×Prop)
 | .move x=>some (aev s x,True)
 | .assign x=>some (aev s x,True)
 | .load T x=>ldS s (aev s x) T
 | .fieldAddr T x n=>fdS (aev s x) T n
 | .binOp op T x y _=>biS op T (aev s x) (aev s y)
 | .unOp .not _ x=>match aev s x with
  | .sc (.bool p)=>some (.sc (.bool (!p)),True)
  | _=>none
 | .unOp .neg _ x=>match aev s x with
  | .sc (.int k i)=>some (.sc (.int k (k.wrap (0 - i))),True)
  | _=>none
 | .unOp .xor _ x=>match aev s x with
  | .sc (.int k i)=>some (.sc (.int k (k.wrap ((BitVec.ofInt k.bits (if k.signed then -1 else k.max)) ^^^ (BitVec.ofInt k.bits i)).toNat)),True)
  | _=>none
 | .extract x n=>match aev s x with
  | .tu l=>match l[n]? with
   | some av=>some (av,True)
   | none=>none
  | _=>none
 | .pick c x y=>match aev s c with
  | .sc (.bool b)=>some (match b with|true=>aev s x|false=>aev s y,True)
  | _=>none
 | .indexAddr T x y=>ixS s (aev s x) (aev s y) T
 | .convert S T x=>match aev s x,tt[S]?,tt[T]? with
  | .sc (.int _ i),some _,some j=>match j.kd with
   | .it k=>some (.sc (.int k (k.wrap i)),True)
   | _=>none
  | _,_,_=>none
 | .nilCheck x=>match aev s x with
  | .bp b u off=>some (.bp b u off,True)
  | .rp k r i off=>some (.rp k r i off,True)
  | .ep b u k i off=>some (.ep b u k i off,True)
  | _=>none
 | .build T parts=>bdS s T parts.toList
 | .makeFunc (.func g) xs caps=>match xs.toList with
  | []=>some (.fn g (caps.toList.map (aev s)),bdC (caps.toList.map (aev s))=false)
  | [x]=>match caps.toList with
   | []=>some (.fn g [.sc .nilFunc,aev s x],True)
   | _=>none
  | _=>none
 | .slice T x lo hi mx=>slS s T (aev s x) lo hi mx
 | _=>none
section
variable {X:Cx} {s:AS} {o:Oper} {av:AV} {p:Prop}
theorem pq_ldS {T:Nat} {x:Operand} (ho:o.op=.load T x) (h:ldS s (aev s x) T=some (av,p)) (hp:p):Pq prog X s o av:=by
 unfold ldS at h;split at h<;>try cases h
 rename_i hx hT
 split at h<;>try cases h
 rename_i hs
 split at h
 ·split at h<;>try cases h
  subst hp;exact pq_loadN ho hx hs hT ‹_› ‹_›
 ·split at h<;>try cases h
  subst hp;exact pq_load1 ho hx hs hT ‹_› ‹_›
theorem pq_fdS {T n:Nat} {x:Operand} (ho:o.op=.fieldAddr T x n) (h:fdS (aev s x) T n=some (av,p)) (hp:p):Pq prog X s o av:=by
 unfold fdS at h;split at h<;>try cases h
 split at h<;>try cases h
 split at h<;>try cases h
 split at h<;>try cases h
 ·exact pq_field ho ‹_› ‹_› ‹_› ‹_› ‹_›
 ·exact pq_field_rp ho ‹_› ‹_› ‹_› ‹_› ‹_›
 ·exact pq_field_ep ho ‹_› ‹_› ‹_› ‹_› ‹_›
theorem pq_biS {op:BinOp} {T T':Nat} {x y:Operand} (ho:o.op=.binOp op T x y T') (h:biS op T (aev s x) (aev s y)=some (av,p)) (hp:p):Pq prog X s o av:=by
 unfold biS at h;split at h<;>try cases h
 ·rename_i hx hy
  split at h
  ·injection h with h;injection h with h1 h2;subst h1 h2;subst hp
   exact pq_bin ho hx hy ‹_›
  ·split at h<;>try cases h
   ·obtain ⟨rfl,hj⟩:=hp;exact pq_quo ho hx hy hj
   ·obtain ⟨rfl,hj⟩:=hp;exact pq_rem ho hx hy hj
   ·exact pq_shl ho hx hy hp
   ·exact pq_shr ho hx hy hp
 ·rename_i hx hy
  split at h<;>try cases h
  exact pq_binB ho hx hy ‹_› (ty_bo ‹_› hp)
 ·rename_i hx hy
  split at h<;>try cases h
  split at h<;>try cases h
  exact pq_nileq ho hx hy ‹_› ⟨‹_›,‹_›⟩
 ·rename_i hx hy
  split at h<;>try cases h
  split at h<;>try cases h
  exact pq_nilnil ho hx hy ‹_› ⟨‹_›,‹_›⟩
theorem pq_ixS {T:Nat} {x y:Operand} (ho:o.op=.indexAddr T x y) (h:ixS s (aev s x) (aev s y) T=some (av,p)) (hp:p):Pq prog X s o av:=by
 unfold ixS at h;split at h<;>try cases h
 rename_i hT hy
 split at h<;>try cases h
 ·rename_i hk hx
  split at h<;>try cases h
  obtain ⟨a,b,c⟩:=hp;exact pq_index_ro ho hx hy hT hk ‹_› a b c
 ·rename_i hk hx
  split at h<;>try cases h
  obtain ⟨rfl,a,b,c⟩:=hp;exact pq_index_hd ho hx ‹_› hy hT hk ‹_› a b c
 ·rename_i hk hx
  split at h<;>try cases h
  obtain ⟨a,b,c⟩:=hp;exact pq_index_sb ho hx hy hT hk ‹_› a b c
 ·rename_i hk hx
  split at h<;>try cases h
  obtain ⟨a,b⟩:=hp;exact pq_index_ar ho hx hy hT hk ‹_› a b
theorem pq_lnS {T:Nat} {x:Operand} {j:Int} (ho:o.op=.call { callee:=.builtin .len,args:=#[x],argTypes:=#[T] }) (h:lnS s (aev s x) T=some (j,p)) (hp:p):Pq prog X s o (.sc (.int .i64 j)):=by
 unfold lnS at h;split at h<;>try cases h
 rename_i hT
 split at h<;>try cases h
 ·exact pq_len_ro ho ‹_› hT ‹_›
 ·split at h<;>try cases h
  subst hp;exact pq_len_hd ho ‹_› ‹_› hT ‹_›
 ·exact pq_len_fs ho ‹_› hT ‹_›
 ·exact pq_len_sb ho ‹_› hT ‹_›
 ·exact pq_len_nil ho ‹_› hT ‹_›
 ·exact pq_len_str ho ‹_› hT ‹_›
theorem pq_bdS {T:Nat} {parts:Array (Nat×Operand)} (ho:o.op=.build T parts) (h:bdS s T parts.toList=some (av,p)):Pq prog X s o av:=by
 unfold bdS at h;split at h<;>try cases h
 rename_i hT
 split at h<;>try cases h
 ·split at h<;>try cases h
  exact pq_build ho hT ‹_› ‹_› ‹_› ‹_›
 ·split at h<;>try cases h
  split at h<;>try cases h
  exact pq_buildA ho hT ‹_› ‹_› ‹_› rfl ‹_›
theorem bd_of {d:Nat} {x:Option Operand} {j:Int} (h:bdv s d x=some j) (h0:0<=j):Bd s x d j.toNat:=by
 cases x with
 | none=>simp only [bdv,Option.some.injEq] at h;subst h;rw [Int.toNat_natCast];exact .no
 | some x=>
  simp only [bdv] at h;split at h
  ·injection h with h;subst h
   exact .lit ‹_› (Int.toNat_of_nonneg h0).symm
  ·cases h
theorem pq_slS {T:Nat} {x:Operand} {lo hi mx:Option Operand} (ho:o.op=.slice T x lo hi mx) (h:slS s T (aev s x) lo hi mx=some (av,p)) (hp:p):Pq prog X s o av:=by
 unfold slS at h;split at h<;>try cases h
 rename_i hT
 split at h<;>try cases h
 rename_i hk
 split at h<;>try cases h
 ·rename_i he hx
  split at h<;>try cases h
  ·rename_i hl hh
   obtain ⟨a,b,c,d⟩:=hp;exact pq_slice_ro ho hx hT hk he a (bd_of (d:=0) hl b) (bd_of hh (by omega)) (by omega) (by omega)
  ·rename_i hl hh
   split at h<;>try cases h
   rename_i hm
   obtain ⟨a,b,c,d,rfl⟩:=hp;exact pq_slice_fs ho hx hT hk he a (bd_of (d:=0) hl b) (bd_of (d:=0) (by simpa only [bdv] using hh) (by omega)) (bd_of (d:=0) hm (by omega)) (by omega) (by omega)
 ·rename_i he hx
  split at h<;>try cases h
  split at h<;>try cases h
  rename_i hh hm
  obtain ⟨rfl,rfl,hm'⟩:=hp;rw [hm'] at hm;have h1:=bd_of (d:=0) hh (by omega);have h2:=bd_of (d:=0) hm (by omega);rw [Int.toNat_natCast] at h1 h2;exact pq_slice_hf ho hx ‹_› hT hk he h1 h2
theorem pq_stp {op:Op} (ho:o.op=op) (h:stp s op=some (av,p)) (hp:p):Pq prog X s o av:=by
 unfold stp at h;split at h
 ·cases h;exact pq_move ho
 ·cases h;exact pq_assign ho
 ·exact pq_ldS ho h hp
 ·exact pq_fdS ho h hp
 ·exact pq_biS ho h hp
 ·split at h<;>try cases h
  exact pq_not ho ‹_›
 ·split at h<;>try cases h
  exact pq_neg ho ‹_›
 ·split at h<;>try cases h
  exact pq_xor1 ho ‹_›
 ·split at h<;>try cases h
  split at h<;>try cases h
  exact pq_extract ho ‹_› ‹_›
 ·split at h<;>try cases h
  rename_i b hb
  have:=pq_pick (P:=prog) (X:=X) ho hb
  cases b<;>exact this
 ·exact pq_ixS ho h hp
 ·split at h<;>try cases h
  split at h<;>try cases h
  rename_i hx hS hT _ _ hk
  exact pq_conv (j:=⟨.ot,0,0,none⟩) ho hx (by obtain ⟨d,_,hd,_⟩:=TI.parts (ty hS);exact ⟨d,hd⟩) (ty_it hT hk)
 ·split at h<;>try cases h
  ·exact pq_nilc ho ‹_›
  ·exact pq_nilc_rp ho ‹_›
  ·exact pq_nilc_ep ho ‹_›
 ·exact pq_bdS ho h
 ·split at h
  ·rename_i hxs
   cases h
   exact pq_mkf (by rw [ho,Array.toList_eq_nil_iff.1 hxs]) hp
  ·rename_i y hxs
   split at h
   ·rename_i hcs
    cases h
    have e:=congrArg List.toArray hxs;simp only [Array.toArray_toList] at e;exact pq_mkm (by rw [ho,Array.toList_eq_nil_iff.1 hcs,e])
   ·cases h
  ·cases h
 ·exact pq_slS ho h hp
 ·cases h
variable {ops:Array Oper} {rest:List Oper} {Q:Exit->AS->Prop} {Qa:AS->Prop} {d:Option Nat} {ty:Nat} {pos:String} {aft:Array Edge} {op:Op}
theorem mapAt {α:Type} {enc:α->List AV} {l:List α} {i:Nat} (h:i < l.length):(l.map enc)[i]? = some (enc (l[i]'h)):=by simp [h]
theorem AP.k_any {o:Oper} (h:AP prog X ops Q (o :: rest) s):AP prog X ops Q (o :: rest) s:=h
end
theorem hks_of {ks:List (Nat×Nat)} {n:Nat} (h:ks.take n=(List.range n).map fun i=>(i,0)):∀ i,i < n->ks[i]? = some (i,0):=fun i hi=>by
 have:(ks.take n)[i]? = some (i,0):=by rw [h];simp [hi]
 rw [List.getElem?_take,if_pos hi] at this;exact this
def setT:List AV->List (Nat×AV)->List AV
 | t,[]=>t
 | t,(i,v) :: l=>setT (t.set i v) l
def deT:List AV->List Nat->List AV
 | t,[]=>t
 | t,i :: l=>deT (t.set i .de) l
def setB:List Sl->List (Nat×Sl)->List Sl
 | b,[]=>b
 | b,(i,v) :: l=>setB (b.set i v) l
theorem Gh.refl (s:AS):Gh s s:=fun _ _ _ h=>h
theorem Gh.trans {a b c:AS} (h1:Gh a b) (h2:Gh b c):Gh a c:=fun X x w h=>h2 X x w (h1 X x w h)
section
variable {P:Program} {X:Cx} {t:List AV} {b:List Sl} {Q:Exit->AS->Prop}
theorem cp_loopS {c:Code} {α:Type} (de:List Nat) (μ:α->Nat) (I:α->Prop) (T:α->List (Nat×AV)) (Bs:α->List (Nat×Sl)) (a0:α) (h0:I a0)
 (hw:Gh ⟨t,b⟩ ⟨setT (deT t de) (T a0),setB b (Bs a0)⟩)
 (round:∀ a,I a->CP P X c (thenQ (fun s'=>∃ a',μ a' < μ a/\I a'/\Gh s' ⟨setT (deT t de) (T a'),setB b (Bs a')⟩) Q) ⟨setT (deT t de) (T a),setB b (Bs a)⟩):CP P X (.loop c) Q ⟨t,b⟩:=
 CP.gh hw (cp_loop (fun n s=>∃ a,n=μ a/\I a/\Gh s ⟨setT (deT t de) (T a),setB b (Bs a)⟩) (μ a0) ⟨a0,rfl,h0,Gh.refl _⟩ (by
  rintro n s ⟨a,rfl,ha,hg⟩;refine CP.gh hg ((round a ha).mono fun e s' hs'=>?_)
  cases e with
  | normal=>obtain ⟨a',h1,h2,h3⟩:=hs';exact ⟨μ a',h1,a',rfl,h2,h3⟩
  | _=>exact hs'))
end
mutual
inductive FzV (b u k:Nat) (s0:List (List AV)):AV->AV->Prop
 | same {a}:FzV b u k s0 a a
 | hd:FzV b u k s0 (.hd b u) (.sl none k s0)
 | ag {l l'}:FzC b u k s0 l l'->FzV b u k s0 (.ag l) (.ag l')
inductive FzC (b u k:Nat) (s0:List (List AV)):List AV->List AV->Prop
 | nil:FzC b u k s0 [] []
 | same {l}:FzC b u k s0 l l
 | cons {x x' l l'}:FzV b u k s0 x x'->FzC b u k s0 l l'->FzC b u k s0 (x :: l) (x' :: l')
end
inductive FzB (b u k:Nat) (s0:List (List AV)):List Sl->List Sl->Prop
 | nil:FzB b u k s0 [] []
 | same {e l l'}:FzB b u k s0 l l'->FzB b u k s0 (e :: l) (e :: l')
 | c {v T c c' l l'} (hc:FzC b u k s0 c c') (hl:FzB b u k s0 l l'):FzB b u k s0 (⟨v,.c T c⟩ :: l) (⟨v,.c T c'⟩ :: l')
mutual
theorem RV.fz {w:World} {φ:Fi} {κ:Ka} {R:Nat->Prop} {b u k:Nat} {s0:List (List AV)} {v0:Value} (hκ:κ b u=some v0) (hv:RV w φ κ R (.sl none k s0) v0 Ct.z):∀ {x x':AV},FzV b u k s0 x x'->∀ {v:Value} {S:Ct},RV w φ κ R x v S->RV w φ κ R x' v S
 | _,_,.same,_,_,h=>h
 | _,_,.hd,_,_,h=>by
  cases h with
  | hd h1 _=>rw [hκ] at h1;injection h1 with h1;subst h1;exact hv
 | _,_,.ag hc,_,_,h=>by cases h with|ag h1 h2=>exact .ag (RC.fz hκ hv hc h1) h2
theorem RC.fz {w:World} {φ:Fi} {κ:Ka} {R:Nat->Prop} {b u k:Nat} {s0:List (List AV)} {v0:Value} (hκ:κ b u=some v0) (hv:RV w φ κ R (.sl none k s0) v0 Ct.z):∀ {l l':List AV},FzC b u k s0 l l'->∀ {vs:List Value} {S:Ct},RC w φ κ R l vs S->RC w φ κ R l' vs S
 | _,_,.nil,_,_,h=>h
 | _,_,.same,_,_,h=>h
 | _,_,.cons h1 h2,_,_,h=>by cases h with|cons a b c=>exact .cons (RV.fz hκ hv h1 a) (RC.fz hκ hv h2 b) c
end
theorem FzB.length {b u k:Nat} {s0:List (List AV)}:∀ {l l':List Sl},FzB b u k s0 l l'->l'.length=l.length
 | _,_,.nil=>rfl
 | _,_,.same h=>by simp [h.length]
 | _,_,.c _ h=>by simp [h.length]
theorem FzB.at_ {b u k:Nat} {s0:List (List AV)} {l l':List Sl} (h:FzB b u k s0 l l'):∀ {i:Nat} {e':Sl},l'[i]? = some e'->∃ e,l[i]? = some e/\e.u=e'.u/\(e=e'\/∃ T c c',e.b=.c T c/\e'.b=.c T c'/\FzC b u k s0 c c'):=by
 induction h with
 | nil=>intro i e' h;simp at h
 | @same e l l' h1 ih=>
  intro i e' h
  cases i with
  | zero=>simp at h;subst h;exact ⟨e,by simp,rfl,.inl rfl⟩
  | succ i=>obtain ⟨e,a,b⟩:=ih (i:=i) (by simpa using h);exact ⟨e,by simpa using a,b⟩
 | @c v T c c' l l' hc h1 ih=>
  intro i e' h
  cases i with
  | zero=>simp at h;subst h;exact ⟨⟨v,.c T c⟩,by simp,rfl,.inr ⟨T,c,c',rfl,rfl,hc⟩⟩
  | succ i=>obtain ⟨e,a,b⟩:=ih (i:=i) (by simpa using h);exact ⟨e,by simpa using a,b⟩
theorem FzB.y {b u k:Nat} {s0:List (List AV)} {l l':List Sl} (h:FzB b u k s0 l l') (i v:Nat) (J:Jt) (hi:l'[i]? = some ⟨v,.y J⟩):l[i]? = some ⟨v,.y J⟩:=by
 obtain ⟨e0,a1,a2,a3⟩:=h.at_ hi;rcases a3 with rfl|⟨T,c,c',b1,b2,b3⟩
 ·exact a1
 ·cases b2
theorem gh_fz {s:AS} {b u k:Nat} {e:TypeId} {rows s0:List (List AV)} {t':List AV} {b':List Sl} (hb:s.b[b]? = some ⟨u,.r e k rows⟩) (hs:roE rows=s0) (ht:FzC b u k s0 s.t t') (hb':FzB b u k s0 (s.b.set b ⟨u,.x⟩) b'):Gh s ⟨t',b'⟩:=by
 rintro X a w ⟨X',φ,κ,f,hX,h⟩;subst hs;obtain ⟨X1,v0,hX1,hκ,hv0,h1⟩:=h.frz hb;refine ⟨X1,φ,κ,updF f b Ct.z,hX.trans hX1,{ tm:=RC.fz hκ hv0 ht h1.tm,df:=h1.df.b hb'.y,sl:=fun i e' hi=>?_,one:=fun x=>?_,own:=fun x hx=>?_,rd:=fun x hx=>?_,fr:=h1.fr,bas:=h1.bas,new:=fun i v hv=>?_ }⟩
 ·obtain ⟨e0,a1,a2,a3⟩:=hb'.at_ hi;have h2:=h1.sl i e0 a1;rcases a3 with rfl|⟨T,c,c',b1,b2,b3⟩
  ·exact h2
  ·rw [b1,a2] at h2;rw [b2];generalize updF f b Ct.z i=S at h2
   cases h2 with
   | c x1 x2 x3 x4 x5=>exact .c x1 x2 (RC.fz hκ hv0 b3 x3) x4 x5
 ·have:=h1.one x;rw [hb'.length];exact this
 ·have:=h1.own x (by rw [hb'.length] at hx;exact hx);exact this
 ·have:=h1.rd x hx;rw [hb'.length];exact this
 ·refine h1.new i v fun e0 he0=>?_
  have hil:i < b'.length:=by rw [hb'.length];exact (List.getElem?_eq_some_iff.1 he0).1
  obtain ⟨e1,a1,a2,_⟩:=hb'.at_ (List.getElem?_eq_getElem hil);rw [he0] at a1;injection a1 with a1;subst a1
  rw [a2];exact hv _ (List.getElem?_eq_getElem hil)
def CPn (P:Program) (X:Cx) (c:Code) (Q:Exit->AS->Prop):Nat->AS->Prop
 | 0,_=>False
 | n + 1,s=>CP P X c (thenQ (CPn P X c Q n) Q) s
theorem cpn_succ {P:Program} {X:Cx} {c:Code} {Q:Exit->AS->Prop} {n:Nat} {s:AS} (h:CP P X c (thenQ (CPn P X c Q n) Q) s):CPn P X c Q (n + 1) s:=h
theorem cp_rounds {P:Program} {X:Cx} {c:Code} {Q:Exit->AS->Prop} (n:Nat) {s:AS} (h:CPn P X c Q n s):CP P X (.loop c) Q s:=fun a w hs=>by
 refine wpIn_loop_rounds n ?_
 induction n generalizing s a w with
 | zero=>exact h.elim
 | succ n ih=>
  refine wpIn_mono (h a w hs) ?_;rintro e a' w' ⟨s',h3,h4⟩
  cases e with
  | normal=>exact ih h3 a' w' h4
  | _=>exact ⟨s',h3,h4⟩
theorem chunks_zrow (z:List ZC):∀ n,chunks z.length n (zrow z n)=List.replicate n (z.map fun c=>AV.sc c.val)
 | 0=>rfl
 | n + 1=>by
  have h1:(zrow z (n + 1)).take z.length=z.map fun c=>AV.sc c.val:=by
   rw [zrow,List.take_append_of_le_length (by simp)];exact List.take_of_length_le (by simp)
  have h2:(zrow z (n + 1)).drop z.length=zrow z n:=by
   rw [zrow,List.drop_append_of_le_length (by simp),List.drop_of_length_le (by simp),List.nil_append]
  rw [chunks,h1,h2,chunks_zrow z n,List.replicate_succ]
section
variable {X:Cx} {s:AS} {ops:Array Oper} {rest:List Oper} {o:Oper} {Q:Exit->AS->Prop}
theorem ap_makeS {T e k:Nat} {x y:Operand} {kl kc:IntKind} {n:Nat} {i ie:TI} {z:List ZC} (hg:o.guard=none) (ho:o.op=.makeSlice T x y) (hx:aev s x=.sc (.int kl (n:Int))) (hy:aev s y=.sc (.int kc (n:Int))) (hT:tt[T]? = some i) (hk:i.kd=.sl e) (he:tt[e]? = some ie) (hz:ie.zero=some z)
 (hsz:ie.size=k) (hk0:Nat.ble 1 k=true) (hby:Nat.ble ie.bytes 100000=true) (hn:n<=1000000)
 (K:AP prog X ops Q rest (AS.put ⟨s.t,(newS s.b (.r e k (List.replicate n (z.map fun c=>AV.sc c.val)))).2⟩ o.dst (.hd (newS s.b (.r e k (List.replicate n (z.map fun c=>AV.sc c.val)))).1.1 (newS s.b (.r e k (List.replicate n (z.map fun c=>AV.sc c.val)))).1.2))):AP prog X ops Q (o :: rest) s:=
 .run hg (fun X φ κ f a w h=>by
  have hk0:=Nat.le_of_ble_eq_true hk0;have hby:=Nat.le_of_ble_eq_true hby;obtain ⟨d,j,hd,hj,_,hjs,hjb,hzz⟩:=TI.parts (ty he);obtain ⟨zv,hzv,hzc,hzl,_⟩:=hzz z hz;have hzk:z.length=k:=by rw [hzl,hsz]
  have hzs:zv.cells.size=k:=by rw [←Array.length_toList,hzc];simpa using hzk
  have hrow:RC w φ κ X.R (zrow z n) ((Array.range (n * k)).map (fun i=>zv.cells[i % zv.cells.size]!)).toList Ct.z:=RC.of_at (by simp [zrow_length,hzk]) fun i b hi=>by
   have hil:i < n * k:=by have:=(List.getElem?_eq_some_iff.1 hi).1;rwa [zrow_length,hzk] at this
   rw [zrow_at (by omega) n i (by rwa [hzk])] at hi
   injection hi with hi;subst hi
   refine ⟨_,?_,.sc (ZC.one _)⟩;have hm:i % z.length < zv.cells.toList.length:=by rw [hzc];simpa using Nat.mod_lt _ (by omega)
   simp only [Array.toList_map,Array.toList_range,List.getElem?_map,List.getElem?_range hil,Option.map_some,Option.some.injEq];rw [show zv.cells.size=z.length by omega];rw [getElem!_pos zv.cells (i % z.length) (by simpa using hm)];have:zv.cells.toList[i % z.length]'hm=(z[i % z.length]'(Nat.mod_lt _ (by omega))).val:=by simp only [hzc,List.getElem_map]
   simpa using this
  have hone0:∀ v∈((Array.range (n * k)).map (fun i=>zv.cells[i % zv.cells.size]!)).toList,v.oneCell'=true:=fun v hv=>by
   obtain ⟨i,hi,rfl⟩:=List.mem_iff_getElem.1 hv;have hil:i < n * k:=by simpa using hi
   obtain ⟨v,hv1,hv2⟩:=hrow.at_ (i:=i) (zrow_at (by omega) n i (by rwa [hzk]));rw [List.getElem?_eq_getElem hi] at hv1;injection hv1 with hv1
   rw [hv1];have:=RV.sc_inv hv2;rw [this];exact ZC.one _
  have hleaf:∀ x∈zrow z n,x.leaf=true:=fun x hx=>by
   obtain ⟨i,hi,rfl⟩:=List.mem_iff_getElem.1 hx;have hil:i < n * z.length:=by rwa [zrow_length] at hi
   have:=zrow_at (z:=z) (by omega) n i hil;rw [List.getElem?_eq_getElem hi] at this;injection this with this
   rw [this];rfl
  have hre:=RE.chunks_ hk0 n hrow (by rw [zrow_length,hzk]) hone0 hleaf;have e0:chunks k n (zrow z n)=List.replicate n (z.map fun c=>AV.sc c.val):=by rw [←hzk];exact chunks_zrow z n
  rw [e0] at hre;have hlr:(List.replicate n (z.map fun c=>AV.sc c.val)).length=n:=by simp
  have hsl:=ty_sl hT hk;have hx':=h.evc hx;have hy':=h.evc hy
  have hrun:(execOp a.eval o).run prog w=.ok (.value (.slice (some ⟨w.heap.size,0,none⟩) n n)) (w.alloc (.cells (madeCells zv.cells (n * k)) e)):=by
   have hb:(j.bytes:Int) * (n:Int)<=281474976710656:=by
    have h1:j.bytes * n<=100000 * 1000000:=Nat.mul_le_mul (by omega) hn;have h2:((j.bytes * n:Nat):Int)<=281474976710656:=by omega
    rwa [Int.natCast_mul] at h2
   have hr:=run_make (P:=prog) w T e j zv hsl hj hzv kl kc n n (by omega) (Int.le_refl _) hb (by omega);simp only [Int.toNat_natCast,hjs,hsz] at hr;simp only [execOp,ho,hx',hy',Sem.run_bind,hr];rfl
  generalize hcs:madeCells zv.cells (n * k)=cs at hrun;have hcs':((Array.range (n * k)).map (fun i=>zv.cells[i % zv.cells.size]!)).toList=cs.toList:=by rw [←hcs];rfl
  rw [hcs'] at hre;have hcl:cs.size=n * k:=by rw [←hcs];exact size_madeCells _ _
  obtain ⟨φ',κ',f',e1,e2,e3,e4,e5⟩:=h.newS_ (w':=w.alloc (.cells cs e)) (B:=.r e k (List.replicate n (z.map fun c=>AV.sc c.val))) (g:=fun x=>(if x=w.heap.size then 1 else 0) + Ct.z x) (L':=Ct.z) none (some (.slice (some ⟨w.heap.size,0,none⟩) n n)) (by simp) rfl rfl rfl
   (fun x hx _=>Below.heap_alloc w _ x hx)
   (fun φ' κ' j u a b c d=>.r d (by
     have hkeep:=RE.keep (w':=w.alloc (.cells cs e)) (fun x hx=>Below.heap_alloc w _ x (h.blk (.inl hx))) (RE.any φ' κ' hre) (fun x hx=>absurd rfl hx);have:=RV.ow (e:=e) (cap:=n) (cur:=cs) hkeep (heap_alloc_new w _) (by omega) (by unfold maxLen;omega) hcl (by rw [hlr];exact List.take_of_length_le (by simp;omega)) fun _=>rfl
     rw [hlr] at this;exact this))
   (fun x hx=>by simp only [Ct.z];rw [if_neg (by omega)];omega)
   (fun x hx=>by simp only [Ct.z];split<;>simp_all)
  exact ⟨_,_,φ',κ',f',hrun,e5.puts o.dst (.hd e4 rfl)⟩) K
theorem pq_min {x y:Operand} {tys:Array TypeId} {k k':IntKind} {i j:Int} (ho:o.op=.call { callee:=.builtin .min,args:=#[x,y],argTypes:=tys }) (hx:aev s x=.sc (.int k i)) (hy:aev s y=.sc (.int k' j)):Pq prog X s o (.sc (.int k (if j < i then j else i))):=.of_run fun X φ κ f a w h=>by
 have h1:=h.evc hx;have h2:=h.evc hy;refine ⟨_,.sc rfl,fun w' _=>?_⟩;simp only [execOp,ho,resolve,invoke,builtin,Sem.run_bind,Sem.run_pure,Result.andThen_ok,List.map_toArray,List.map_cons,List.map_nil,h1,h2,Builtin.min_,List.foldlM_cons,List.foldlM_nil,Builtin.min2]
theorem pq_max {x y:Operand} {tys:Array TypeId} {k k':IntKind} {i j:Int} (ho:o.op=.call { callee:=.builtin .max,args:=#[x,y],argTypes:=tys }) (hx:aev s x=.sc (.int k i)) (hy:aev s y=.sc (.int k' j)):Pq prog X s o (.sc (.int k (if i < j then j else i))):=.of_run fun X φ κ f a w h=>by
 have h1:=h.evc hx;have h2:=h.evc hy;refine ⟨_,.sc rfl,fun w' _=>?_⟩;simp only [execOp,ho,resolve,invoke,builtin,Sem.run_bind,Sem.run_pure,Result.andThen_ok,List.map_toArray,List.map_cons,List.map_nil,h1,h2,Builtin.max_,List.foldlM_cons,List.foldlM_nil,Builtin.max2]
end
def stq (s:AS) (op:Op):Option (AV×Prop):=
 match op with
 | .call ⟨.builtin .len,xs,ts⟩=>
  match xs.toList,ts.toList with
  | [x],[T]=>match lnS s (aev s x) T with
   | some (j,p)=>some (.sc (.int .i64 j),p)
   | none=>none
  | _,_=>none
 | .call ⟨.builtin .min,xs,_⟩=>
  match xs.toList with
  | [x,y]=>match aev s x,aev s y with
   | .sc (.int k i),.sc (.int _ j)=>some (.sc (.int k (if j < i then j else i)),True)
   | _,_=>none
  | _=>none
 | .call ⟨.builtin .max,xs,_⟩=>
  match xs.toList with
  | [x,y]=>match aev s x,aev s y with
   | .sc (.int k i),.sc (.int _ j)=>some (.sc (.int k (if i < j then j else i)),True)
   | _,_=>none
  | _=>none
 | .load T x=>
  match ldS s (aev s x) T,tt[T]? with
  | some (av,p),some i=>match i.kd with
   | .ot=>match av with
    | .sc (.func (.func f) a b)=>match a.toList,b.toList with
     | [],[]=>some (.fn f [],p)
     | _,_=>none
    | _=>some (av,p)
   | _=>some (av,p)
  | _,_=>none
 | op=>stp s op
def elS (s:AS) (op:Op):Option (List (List AV)×Nat×(List AV->Option AV)×Prop):=
 match op with
 | .load T x=>
  match tt[T]?,aev s x with
  | some ti,.rp _ r i off=>
   match rowK ti.kd with
   | true=>some (r,i,fun c=>match Nat.ble (off + ti.size) c.length with
    | true=>some (.ag ((c.drop off).take ti.size))
    | false=>none,True)
   | false=>some (r,i,fun c=>c[off]?,True)
  | some ti,.ep b u k i off=>
   match s.b[b]? with
   | some ⟨v,.r _ k' r⟩=>
    match rowK ti.kd with
    | true=>some (r,i,fun c=>match Nat.ble (off + ti.size) c.length with
     | true=>some (.ag (((c.map AV.cp).drop off).take ti.size))
     | false=>none,v=u/\k'=k)
    | false=>some (r,i,fun c=>match c[off]? with
     | some a=>some a.cp
     | none=>none,v=u/\k'=k)
   | _=>none
  | _,_=>none
 | _=>none
def clsF (fz:Bool):List Sl->List AV->Option (List AV×List Sl×Prop)
 | b,[]=>some ([],b,True)
 | b,a :: l=>
  match a with
  | .hd i u=>match b[i]? with
   | some ⟨v,.r e k r⟩=>match clsF fz (b.set i ⟨v,.x⟩) l with
    | some (l',b',p)=>some ((match fz with|true=>.sl none k (roE r)|false=>.sl (some e) k r) :: l',b',v=u/\p)
    | none=>none
   | _=>none
  | .fn f c=>match c,clsF fz b l with
   | [],some (l',b',p)=>some (.sc (.func (.func f) #[] #[]) :: l',b',p)
   | _,_=>none
  | .sc v=>match clsF fz b l with
   | some (l',b',p)=>some (.sc v :: l',b',p)
   | none=>none
  | .sl o k r=>match clsF fz b l with
   | some (l',b',p)=>some (.sl o k r :: l',b',p)
   | none=>none
  | _=>none
theorem clsF_of {fz:Bool}:∀ {b:List Sl} {l l':List AV} {b':List Sl} {p:Prop},clsF fz b l=some (l',b',p)->p->ClsC b l l' b'
 | b,[],l',b',p,h,hp=>by simp only [clsF,Option.some.injEq,Prod.mk.injEq] at h;obtain ⟨rfl,rfl,_⟩:=h;exact .nil
 | b,a :: l,l',b',p,h,hp=>by
  unfold clsF at h;split at h
  ·split at h<;>try cases h
   rename_i v e k r hb
   split at h<;>try cases h
   rename_i hc
   obtain ⟨rfl,hp⟩:=hp
   cases fz with
   | true=>exact .fz hb rfl (clsF_of hc hp)
   | false=>exact .hd hb (clsF_of hc hp)
  ·split at h<;>try cases h
   rename_i hc
   exact .fn (clsF_of hc hp)
  ·split at h<;>try cases h
   rename_i hc
   exact .leaf rfl (clsF_of hc hp)
  ·split at h<;>try cases h
   rename_i hc
   exact .leaf rfl (clsF_of hc hp)
  ·cases h
def yrS (s:AS) (y:AV):Option (Nat×List (List AV)×List Sl×Option (Nat×Nat)×Prop):=
 match y with
 | .sl none k r=>some (k,r,s.b,none,True)
 | .hd b u=>match s.b[b]? with
  | some ⟨v,.r e k r⟩=>some (k,r,s.b.set b ⟨v,.x⟩,some (b,e),v=u)
  | _=>none
 | _=>none
def yeP (e:Nat):Option (Nat×Nat)->Prop
 | none=>True
 | some (_,e')=>e'=e
def apS (s:AS) (T:Nat) (x y:AV):Option (AV×List Sl×Prop):=
 match tt[T]?,yrS s y with
 | some i,some (k,r2,b1,q,p)=>
  match i.kd with
  | .sl e=>match tt[e]? with
   | some ie=>
    match ie.zero.isSome,Nat.ble 1 ie.size,Nat.ble ie.bytes 100000 with
    | true,true,true=>
     match x with
     | .hd b u=>match s.b[b]?,(match q with|none=>true|some (b2,_)=>!(Nat.beq b2 b)) with
      | some ⟨v,.r e' k' r1⟩,true=>some (.hd b (u + 1),b1.set b ⟨u + 1,.r e k (r1 ++ r2)⟩,p/\yeP e q/\ie.size=k/\v=u/\e'=e/\k'=k/\r1.length + r2.length<=1000000000)
      | _,_=>none
     | .hf b u=>match s.b[b]?,(match q with|none=>true|some (b2,_)=>!(Nat.beq b2 b)) with
      | some ⟨v,.r e' k' r1⟩,true=>some (.hd b (u + 1),b1.set b ⟨u + 1,.r e k (r1 ++ r2)⟩,p/\yeP e q/\ie.size=k/\v=u/\e'=e/\k'=k/\r1.length + r2.length<=1000000000/\0 < r2.length)
      | _,_=>none
     | .fs k' r1=>match newS b1 (.r e k (r1 ++ r2)) with
      | ((j,v),b2)=>some (.hd j v,b2,p/\yeP e q/\ie.size=k/\k'=k/\r1.length + r2.length<=1000000000/\(r1=[]\/0 < r2.length))
     | .sc (.slice none 0 0)=>match newS b1 (.r e k r2) with
      | ((j,v),b2)=>some (.hd j v,b2,p/\yeP e q/\ie.size=k/\r2.length<=1000000000)
     | _=>none
    | _,_,_=>none
   | none=>none
  | _=>none
 | _,_=>none
def stS (s:AS) (T:Nat) (p y:AV):Option (AV×List Sl×Prop):=
 match p,tt[T]? with
 | .bp b u off,some i=>
  match s.b[b]?,y.known,Nat.beq y.cells.length i.size with
  | some ⟨v,.c T' l⟩,true,true=>match Nat.ble (off + i.size) l.length with
   | true=>some (.tu [],s.b.set b ⟨v,.c T' (spl l off y.cells)⟩,v=u)
   | false=>none
  | _,_,_=>none
 | _,_=>none
def bsS (fz:Bool) (s:AS) (T n:Nat) (ps:List (Nat×Operand)):Option (AV×List Sl×Prop):=
 match tt[T]? with
 | some i=>match i.kd with
  | .sl e=>match tt[e]? with
   | some ie=>match ie.zero with
    | some z=>
     match Nat.ble 1 ie.size,Nat.ble (n * ie.size) 1000000,ps.all (fun p=>(aev s p.2).known && ((aev s p.2).cells.length == ie.size) && Nat.ble (p.1 * ie.size + ie.size) (n * ie.size)) with
     | true,true,true=>
      match clsF fz s.b (bldA s ie.size ps (zrow z n)) with
      | some (fl,b1,p)=>match newS b1 (.r e ie.size (chunks ie.size n fl)) with
       | ((j,v),b2)=>some (.hd j v,b2,p)
      | none=>match Nat.ble 1 n,newS s.b (.c e (bldA s ie.size ps (zrow z n))) with
       | true,((j,v),b2)=>some (.sb j v ie.size 0 n n,b2,True)
       | false,_=>none
     | _,_,_=>none
    | none=>none
   | none=>none
  | _=>none
 | none=>none
def stm (fz:Bool) (s:AS) (op:Op):Option (AV×List Sl×Prop):=
 match op with
 | .box T x=>match (aev s x).known,newS s.b (.c T (aev s x).cells) with
  | true,((j,v),b)=>some (.bp j v 0,b,True)
  | false,_=>none
 | .alloc T=>match tt[T]? with
  | some i=>match i.zero with
   | some z=>match newS s.b (.c T (z.map fun c=>.sc c.val)) with
    | ((j,v),b)=>some (.bp j v 0,b,True)
   | none=>none
  | none=>none
 | .store T x y=>stS s T (aev s x) (aev s y)
 | .buildSlice T n ps=>bsS fz s T n ps.toList
 | .call ⟨.builtin .append,xs,ts⟩=>
  match xs.toList,ts.toList with
  | [x,y],[T,T']=>match Nat.beq T T' with
   | true=>apS s T (aev s x) (aev s y)
   | false=>none
  | _,_=>none
 | op=>match stq s op with
  | some (av,p)=>some (av,s.b,p)
  | none=>none
def gdS (ops:Array Oper) (s:AS):Option (Nat×Bool)->Option Bool
 | none=>some true
 | some (j,b)=>match (ops[j]?).bind (·.dst) with
  | some d=>match s.t.getD d .de with
   | .sc (.bool c)=>match c,b with
    | true,true=>some true
    | false,false=>some true
    | true,false=>some false
    | false,true=>some false
   | .tu l=>match l with
    | []=>some false
    | _=>none
   | _=>none
  | none=>none
def smG (fz:Bool) (ops:Array Oper) (s:AS) (o:Oper):Option (AS×Prop):=
 match gdS ops s o.guard with
 | some true=>match stm fz s o.op with
  | some (av,b,p)=>some (AS.put ⟨s.t,b⟩ o.dst av,p)
  | none=>none
 | some false=>some (s.put o.dst (.tu []),True)
 | none=>none
theorem gdS_of {ops:Array Oper} {s:AS} {j:Nat} {b r:Bool} (h:gdS ops s (some (j,b))=some r):∃ d,(ops[j]?).bind (·.dst)=some d/\((s.t.getD d .de=.sc (.bool b)/\r=true)\/(∃ c,s.t.getD d .de=.sc (.bool c)/\(c == b)=false/\r=false)\/(s.t.getD d .de=.tu []/\r=false)):=by
 unfold gdS at h;dsimp only at h;split at h<;>try cases h
 rename_i d hd
 refine ⟨d,hd,?_⟩;split at h<;>try cases h
 ·rename_i c hs
  split at h<;>cases h
  ·exact .inl ⟨hs,rfl⟩
  ·exact .inl ⟨hs,rfl⟩
  ·exact .inr (.inl ⟨_,hs,rfl,rfl⟩)
  ·exact .inr (.inl ⟨_,hs,rfl,rfl⟩)
 ·rename_i hs
  split at h<;>cases h
  exact .inr (.inr ⟨hs,rfl⟩)
section
variable {X:Cx} {s s':AS} {o:Oper} {av:AV} {p:Prop} {op:Op}
theorem toL1 {α:Type} {a:Array α} {x:α} (h:a.toList=[x]):a=#[x]:=by rw [←Array.toArray_toList (xs:=a),h]
theorem toL2 {α:Type} {a:Array α} {x y:α} (h:a.toList=[x,y]):a=#[x,y]:=by rw [←Array.toArray_toList (xs:=a),h]
theorem pq_stq (ho:o.op=op) (h:stq s op=some (av,p)) (hp:p):Pq prog X s o av:=by
 unfold stq at h;split at h
 ·split at h<;>try cases h
  rename_i hx ht
  split at h<;>try cases h
  rename_i hl
  rw [toL1 hx,toL1 ht] at ho;exact pq_lnS ho hl hp
 ·split at h<;>try cases h
  rename_i hx
  split at h<;>try cases h
  rw [toL2 hx] at ho;exact pq_min ho ‹_› ‹_›
 ·split at h<;>try cases h
  rename_i hx
  split at h<;>try cases h
  rw [toL2 hx] at ho;exact pq_max ho ‹_› ‹_›
 ·split at h<;>try cases h
  rename_i hl hT
  split at h
  ·split at h
   ·split at h<;>cases h
    rename_i ha hb
    have:=pq_ldS (X:=X) ho hl hp;intro X' φ κ f a w hX hs;obtain ⟨v,hv,hq⟩:=this X' φ κ f a w hX hs;refine ⟨v,?_,hq⟩;rw [Array.toList_eq_nil_iff.1 ha,Array.toList_eq_nil_iff.1 hb] at hv
    cases hv;exact .fn .nil
   ·cases h;exact pq_ldS ho hl hp
  ·cases h;exact pq_ldS ho hl hp
 ·exact pq_stp ho h hp
theorem pq_elS {rows:List (List AV)} {i:Nat} {f:List AV->Option AV} {c:List AV} (ho:o.op=op) (h:elS s op=some (rows,i,f,p)) (hp:p) (hc:rows[i]? = some c/\f c=some av):Pq prog X s o av:=by
 obtain ⟨hc,hf⟩:=hc;unfold elS at h;split at h<;>try cases h
 split at h<;>try cases h
 ·rename_i hT hx
  split at h<;>cases h
  ·rename_i hk
   dsimp only at hf;split at hf<;>cases hf
   exact pq_loadN_rp ho hx hT hk ⟨hc,‹_›⟩
  ·rename_i hk
   exact pq_load1_rp ho hx hT hk ⟨hc,hf⟩
 ·rename_i hT hx
  split at h<;>try cases h
  rename_i hb
  split at h<;>cases h
  ·rename_i hk
   obtain ⟨rfl,rfl⟩:=hp;dsimp only at hf;split at hf<;>cases hf
   exact pq_loadN_ep ho hx hb hT hk ⟨hc,‹_›⟩
  ·rename_i hk
   obtain ⟨rfl,rfl⟩:=hp;dsimp only at hf;split at hf<;>cases hf
   exact pq_load1_ep ho hx hb hT hk ⟨hc,‹_›⟩
variable {ops:Array Oper} {rest:List Oper} {Q:Exit->AS->Prop} {Qa:AS->Prop}
theorem yrS_of {y:AV} {k e:Nat} {r:List (List AV)} {b1:List Sl} {q:Option (Nat×Nat)} (h:yrS s y=some (k,r,b1,q,p)) (hp:p) (hq:yeP e q) :
 (y=.sl none k r/\b1=s.b/\q=none)\/∃ b2 u2,y=.hd b2 u2/\s.b[b2]? = some ⟨u2,.r e k r⟩/\b1=s.b.set b2 ⟨u2,.x⟩/\q=some (b2,e):=by
 unfold yrS at h;split at h<;>try cases h
 ·exact .inl ⟨rfl,rfl,rfl⟩
 ·split at h<;>cases h
  rename_i hb
  subst hp;simp only [yeP] at hq;subst hq
  exact .inr ⟨_,_,rfl,hb,rfl,rfl⟩
theorem ap_apS {T:Nat} {x y:Operand} {b1:List Sl} (hg:o.guard=none) (ho:o.op=.call { callee:=.builtin .append,args:=#[x,y],argTypes:=#[T,T] }) (h:apS s T (aev s x) (aev s y)=some (av,b1,p)) (hp:p)
 (K:AP prog X ops Q rest (AS.put ⟨s.t,b1⟩ o.dst av)):AP prog X ops Q (o :: rest) s:=by
 unfold apS at h;split at h<;>try cases h
 rename_i hT hy
 split at h<;>try cases h
 rename_i hk
 split at h<;>try cases h
 rename_i he
 split at h<;>try cases h
 rename_i h1 h2 h3
 have nb:∀ {a b:Nat},(!(Nat.beq a b))=true->Nat.beq a b=false:=fun h=>by simpa using h
 split at h
 ·rename_i hx
  split at h<;>cases h
  rename_i hb hq
  obtain ⟨p1,p2,rfl,rfl,rfl,rfl,p3⟩:=hp;refine ap_appendO hg ho hx hb hT hk he h1 rfl h2 h3 p3 ?_ K;rcases yrS_of hy p1 p2 with ⟨a,b,_⟩|⟨b2,u2,a,b,c,rfl⟩
  ·exact .inl ⟨a,b⟩
  ·exact .inr ⟨b2,u2,a,b,nb hq,c⟩
 ·rename_i hx
  split at h<;>cases h
  rename_i hb hq
  obtain ⟨p1,p2,rfl,rfl,rfl,rfl,p3,p4⟩:=hp;refine ap_appendH hg ho hx hb hT hk he h1 rfl h2 h3 p3 p4 ?_ K;rcases yrS_of hy p1 p2 with ⟨a,b,_⟩|⟨b2,u2,a,b,c,rfl⟩
  ·exact .inl ⟨a,b⟩
  ·exact .inr ⟨b2,u2,a,b,nb hq,c⟩
 ·rename_i hx
  cases h
  obtain ⟨p1,p2,rfl,rfl,p3,p4⟩:=hp;refine ap_appendF hg ho hx hT hk he h1 rfl h2 h3 ?_ p3 p4 K;rcases yrS_of hy p1 p2 with ⟨a,b,_⟩|⟨b2,u2,a,b,c,rfl⟩
  ·exact .inl ⟨a,b⟩
  ·exact .inr ⟨b2,u2,a,b,c⟩
 ·rename_i hx
  cases h
  obtain ⟨p1,p2,rfl,p3⟩:=hp;refine ap_appendN hg ho hx hT hk he h1 rfl h2 h3 ?_ p3 K;rcases yrS_of hy p1 p2 with ⟨a,b,_⟩|⟨b2,u2,a,b,c,rfl⟩
  ·exact .inl ⟨a,b⟩
  ·exact .inr ⟨b2,u2,a,b,c⟩
 ·cases h
theorem ap_stm {fz:Bool} {b1:List Sl} (hg:o.guard=none) (ho:o.op=op) (h:stm fz s op=some (av,b1,p)) (hp:p) (K:AP prog X ops Q rest (AS.put ⟨s.t,b1⟩ o.dst av)):AP prog X ops Q (o :: rest) s:=by
 unfold stm at h;split at h
 ·split at h<;>try cases h
  rename_i hk hn
  have hn:=congrArg Prod.snd hn
  rename_i hn0
  have e1:=congrArg (fun z=>z.1.1) hn0;have e2:=congrArg (fun z=>z.1.2) hn0;dsimp only at e1 e2 hn;refine ap_box hg ho rfl hk ?_;rw [e1,e2,hn];exact K
 ·split at h<;>try cases h
  rename_i hT
  split at h<;>try cases h
  rename_i hz
  refine ap_alloc hg ho hT hz K
 ·unfold stS at h;split at h<;>try cases h
  rename_i hx hT
  split at h<;>try cases h
  rename_i hb hk hn
  split at h<;>cases h
  rename_i hl
  subst hp;exact ap_store hg ho hx hb rfl hk hT (Nat.eq_of_beq_eq_true hn) hl K
 ·unfold bsS at h;split at h<;>try cases h
  rename_i hT
  split at h<;>try cases h
  rename_i hk
  split at h<;>try cases h
  rename_i he
  split at h<;>try cases h
  rename_i hz
  split at h<;>try cases h
  rename_i h1 h2 h3
  split at h
  ·rename_i hc
   cases h
   exact ap_buildSlice hg ho hT hk he hz rfl h1 h2 h3 rfl (clsF_of hc hp) rfl K
  ·split at h<;>try cases h
   rename_i hn hnew
   have e0:=congrArg Prod.snd hnew;have e1:=congrArg (fun z=>z.1.1) hnew;have e2:=congrArg (fun z=>z.1.2) hnew;dsimp only at e0 e1 e2;refine ap_bslB hg ho hT hk he hz rfl h1 h2 h3 hn rfl ?_;rw [e0,e1,e2];exact K
 ·split at h<;>try cases h
  rename_i hx ht
  split at h<;>try cases h
  rename_i hT
  have hT:=Nat.eq_of_beq_eq_true hT;subst hT;rw [toL2 hx,toL2 ht] at ho;exact ap_apS hg ho h hp K
 ·split at h<;>cases h
  rename_i hq
  exact AP.pure hg (pq_stq ho hq hp) K
theorem AP.sm (fz:Bool) (h:smG fz ops s o=some (s',p)) (hp:p) (K:AP prog X ops Q rest s'):AP prog X ops Q (o :: rest) s:=by
 unfold smG at h;split at h
 ·rename_i hg
  split at h<;>cases h
  rename_i hs
  cases hgd:o.guard with
  | none=>exact ap_stm hgd rfl hs hp K
  | some jb=>
   obtain ⟨j,b⟩:=jb;rw [hgd] at hg;obtain ⟨d,hd,h1|⟨c,_,_,h1⟩|⟨_,h1⟩⟩:=gdS_of hg
   ·exact AP.gyes hgd hd h1.1 (ap_stm (o:={ o with guard:=none }) rfl rfl hs hp K)
   ·cases h1
   ·cases h1
 ·rename_i hg
  cases h
  cases hgd:o.guard with
  | none=>rw [hgd] at hg;cases hg
  | some jb=>
   obtain ⟨j,b⟩:=jb;rw [hgd] at hg;obtain ⟨d,hd,h1|⟨c,h1,h2,_⟩|⟨h1,_⟩⟩:=gdS_of hg
   ·cases h1.2
   ·exact AP.gno hgd hd h1 h2 K
   ·exact AP.gund hgd hd h1 K
 ·cases h
theorem RetQ.mk2 {F:Func} {n:List Bool} {Q:AV->List Bx->Prop} {s:AS} {e:Exit} {vs:List AV} {r1 r:AV} {b1 b2:List Sl} {ks:List (Nat×Nat)} {bs':List Bx} (he:e=.normal\/e=.ret) (hl:ResL s F.results.toList vs) (hc:ClsR s.b (resV vs) r1 b1) (hr:RnV (mskK s.b.length n ks) r r1) (ho:Out b1 ks bs' b2)
 (hk:∀ i,i < n.length->ks[i]? = some (i,0)) (hkk:kOk n bs'=true) (hq:Q r bs'):RetQ F n Q e s:=.mk he hq hr hl hc ho hk hkk
theorem AP.el {rows:List (List AV)} {i:Nat} {f:List AV->Option AV} {c:List AV} {d:Option Nat} {ty:Nat} {pos:String} {aft:Array Edge} (h:elS s op=some (rows,i,f,p)) (hp:p) (hc:rows[i]? = some c/\f c=some av) (K:AP prog X ops Q rest (s.put d av)):AP prog X ops Q (⟨d,op,ty,pos,aft,none⟩ :: rest) s:=AP.pure rfl (pq_elS rfl h hp hc) K
end
abbrev tU:TypeId:=5
abbrev I (x:Int):AV:=.sc (.int .i64 x)
abbrev B (x:Bool):AV:=.sc (.bool x)
abbrev U (x:UInt8):AV:=.sc (.int .u8 (x.toNat:Int))
abbrev eB (x:UInt8):List AV:=[U x]
abbrev bs (o:Option TypeId) (l:List UInt8):AV:=.sl o 1 (l.map eB)
theorem wrap_i64 {x:Int} (h:-9223372036854775808<=x) (h':x<=9223372036854775807):IntKind.i64.wrap x=x:=IntWalk.i64_in _ (by omega)
theorem NR.leafs {e k:Nat} {α:Type} {enc:α->List AV} {l:List α} (h:∀ x a,a∈enc x->NR a):NR (.sl (some e) k (l.map enc)):=
 .ow fun c hc a ha=>by obtain ⟨x,_,rfl⟩:=List.mem_map.1 hc;exact h x a ha
theorem nr_B {e k:Nat} {l:List UInt8}:NR (.sl (some e) k (l.map eB)):=NR.leafs fun x a ha=>by simp [eB] at ha;subst ha;exact .sc
theorem ro_B (l:List UInt8):roE (l.map eB)=l.map eB:=by rw [roE_map];rfl
theorem rn:type_of% (And.intro @roE.eq_1 (And.intro @roE.eq_2 (And.intro @roC.eq_1 (And.intro @roC.eq_2 (And.intro @AV.ro.eq_1 (And.intro @AV.ro.eq_2 (And.intro @AV.ro.eq_6 @ro_B))))))):=And.intro @roE.eq_1 (And.intro @roE.eq_2 (And.intro @roC.eq_1 (And.intro @roC.eq_2 (And.intro @AV.ro.eq_1 (And.intro @AV.ro.eq_2 (And.intro @AV.ro.eq_6 @ro_B))))))
theorem mk0 (n:Nat):List.replicate n [AV.sc (.int .u8 0)]=(List.replicate n (0:UInt8)).map eB:=by rw [List.map_replicate];rfl
def inN (n:Nat):List Nat->Bool
 | []=>false
 | m :: l=>match n == m with
  | true=>true
  | false=>inN n l
def msT (rs:List Nat):Nat->List AV->List AV
 | _,[]=>[]
 | n,a :: l=>(match inN n rs with|true=>a|false=>.de) :: msT rs (n + 1) l
def msB (F:List Nat) (V:Nat->Nat):Nat->List Sl->List Sl
 | _,[]=>[]
 | n,e :: l=>(match inN n F with|true=>e|false=>⟨V n,.o⟩) :: msB F V (n + 1) l
inductive Mg (F:List Nat) (V:Nat->Nat):Nat->List Sl->List Sl->List Sl->Prop
 | nil {n}:Mg F V n [] [] []
 | keep {n e l l1 l2}:inN n F=false->Mg F V (n + 1) l l1 l2->Mg F V n (e :: l) (⟨V n,.o⟩ :: l1) (e :: l2)
 | take {n e e' l l1 l2}:inN n F=true->Mg F V (n + 1) l l1 l2->Mg F V n (e :: l) (e' :: l1) (e' :: l2)
def dput (d:Option Nat) (av:AV) (t:List AV):List AV:=
 match d with
 | some d=>t.set d av
 | none=>t
def gtv (d:Option Nat) (t:List AV) (av:AV):Prop:=
 match d with
 | some d=>d < t.length->t[d]? = some av
 | none=>True
def ovB (F:List Nat):Nat->List Sl->List Sl->List Sl
 | n,e2 :: l2,e :: l=>(match inN n F with|true=>e2|false=>e) :: ovB F (n + 1) l2 l
 | _,_,l=>l
def nyF (F:List Nat):Nat->List Sl->Bool
 | _,[]=>true
 | n,e :: l=>(match inN n F with|true=>!e.b.isY|false=>true) && nyF F (n + 1) l
theorem nyF_at {F:List Nat}:∀ {l:List Sl} {n i u:Nat} {J:Jt},nyF F n l=true->l[i]? = some ⟨u,.y J⟩->inN (n + i) F=false
 | [],_,_,_,_,_,h=>by simp at h
 | e :: l,n,0,u,J,h,hi=>by
  simp at hi;subst hi
  simp only [nyF,Bool.and_eq_true] at h;rw [Nat.add_zero]
  cases hn:inN n F with
  | false=>rfl
  | true=>have:=h.1;rw [hn] at this;cases this
 | e :: l,n,i + 1,u,J,h,hi=>by
  simp only [nyF,Bool.and_eq_true] at h;have:=nyF_at (i:=i) h.2 (by simpa using hi)
  rwa [show n + 1 + i=n + (i + 1) by omega] at this
theorem msT_at {rs:List Nat}:∀ {l:List AV} {n i:Nat},(msT rs n l)[i]? = (l[i]?).map fun a=>match inN (n + i) rs with|true=>a|false=>.de
 | [],n,i=>by simp [msT]
 | a :: l,n,0=>by simp [msT]
 | a :: l,n,i + 1=>by
  have:=msT_at (rs:=rs) (l:=l) (n:=n + 1) (i:=i);simp only [msT,List.getElem?_cons_succ,this,show n + 1 + i=n + (i + 1) by omega]
theorem msB_at {F:List Nat} {V:Nat->Nat}:∀ {l:List Sl} {n i:Nat},(msB F V n l)[i]? = (l[i]?).map fun e=>match inN (n + i) F with|true=>e|false=>⟨V (n + i),.o⟩
 | [],n,i=>by simp [msB]
 | a :: l,n,0=>by simp [msB]
 | a :: l,n,i + 1=>by
  have:=msB_at (F:=F) (V:=V) (l:=l) (n:=n + 1) (i:=i);simp only [msB,List.getElem?_cons_succ,this,show n + 1 + i=n + (i + 1) by omega]
theorem msT_len {rs:List Nat}:∀ {l:List AV} {n:Nat},(msT rs n l).length=l.length
 | [],_=>rfl
 | _ :: l,n=>by simp [msT,msT_len (l:=l)]
theorem msB_len {F:List Nat} {V:Nat->Nat}:∀ {l:List Sl} {n:Nat},(msB F V n l).length=l.length
 | [],_=>rfl
 | _ :: l,n=>by simp [msB,msB_len (l:=l)]
theorem ovB_len {F:List Nat}:∀ {l2 l:List Sl} {n:Nat},(ovB F n l2 l).length=l.length
 | [],l,_=>by simp [ovB]
 | _ :: l2,[],_=>by simp [ovB]
 | _ :: l2,_ :: l,n=>by simp [ovB,ovB_len (l2:=l2) (l:=l)]
theorem ovB_at {F:List Nat}:∀ {l2 l:List Sl} {n i:Nat},l2.length=l.length->(ovB F n l2 l)[i]? = match inN (n + i) F with|true=>l2[i]?|false=>l[i]?
 | [],[],n,i,_=>by simp [ovB];split<;>rfl
 | [],_ :: _,_,_,h=>by simp at h
 | _ :: _,[],_,_,h=>by simp at h
 | e2 :: l2,e :: l,n,0,h=>by simp only [ovB,List.getElem?_cons_zero,Nat.add_zero];split<;>rfl
 | e2 :: l2,e :: l,n,i + 1,h=>by
  have:=ovB_at (F:=F) (l2:=l2) (l:=l) (n:=n + 1) (i:=i) (by simpa using h);simp only [ovB,List.getElem?_cons_succ,this,show n + 1 + i=n + (i + 1) by omega]
theorem Mg.len {F:List Nat} {V:Nat->Nat} {n:Nat} {l l1 l2:List Sl} (h:Mg F V n l l1 l2):l1.length=l.length/\l2.length=l.length:=by
 induction h with
 | nil=>exact ⟨rfl,rfl⟩
 | keep _ _ ih=>simp [ih.1,ih.2]
 | take _ _ ih=>simp [ih.1,ih.2]
theorem Mg.at_ {F:List Nat} {V:Nat->Nat} {n:Nat} {l l1 l2:List Sl} (h:Mg F V n l l1 l2):∀ i,(inN (n + i) F=true->l2[i]? = l1[i]?)/\(inN (n + i) F=false->l2[i]? = l[i]? /\ l1[i]? = (l[i]?).map fun _=>⟨V (n + i),.o⟩):=by
 induction h with
 | nil=>intro i;simp
 | keep h0 _ ih=>
  intro i
  cases i with
  | zero=>simp [h0]
  | succ i=>have:=ih i;simpa [show ∀ n,n + 1 + i=n + (i + 1) by omega] using this
 | take h0 _ ih=>
  intro i
  cases i with
  | zero=>simp [h0]
  | succ i=>have:=ih i;simpa [show ∀ n,n + 1 + i=n + (i + 1) by omega] using this
section
variable {P:Program} {X:Cx} {φ φ':Fi} {κ κ':Ka} {f:Nat->Ct} {L:Ct} {s:AS} {a:Act} {w w':World} {ops:Array Oper} {o:Oper}
theorem wpL_turn {ρ:Option Nat} {Q Q':Exit->Act->World->Prop} (hK:∀ e a w,Q e a w->e=.normal) (hQ:∀ a' w',(∃ v,a'.tmps=(a.put o.dst v).tmps)->Q .normal a' w'->Q' .normal a' w') (h:wpL ρ P ops Q [o] a w):wpL ρ P ops Q' [o] a w:=by
 rw [wpL_cons] at *;split
 ·rename_i hw
  rw [if_pos hw] at h;exact wpO_turn hK hQ h
 ·rename_i hw
  rw [if_neg hw] at h;exact hQ _ _ ⟨_,rfl⟩ h
theorem sumF_part {p:Nat->Bool} {f:Nat->Ct} (x:Nat):∀ n,sumF f n x=sumF (fun i=>if p i then f i else Ct.z) n x + sumF (fun i=>if p i then Ct.z else f i) n x
 | 0=>rfl
 | n + 1=>by
  simp only [sumF];have:=sumF_part (p:=p) (f:=f) x n
  cases p n<;>simp [Ct.z]<;>omega
def FStep (P:Program) (ops:Array Oper) (o:Oper) (s:AS) (rs F:List Nat) (av:AV) (b2:List Sl):Prop:=
 ∀ X s',s'.t.length=s.t.length->s'.b.length=s.b.length->(∀ i,inN i rs=true->s'.t[i]? = s.t[i]?)->(∀ j,inN j F=true->s'.b[j]? = s.b[j]?) ->
  AP P X ops (fun e s''=>e=.normal/\s''=⟨dput o.dst av s'.t,ovB F 0 b2 s'.b⟩) [o] s'
theorem frame {rs F:List Nat} {av:AV} {b2:List Sl} (h:∀ X V,AP P X ops (fun e s'=>e=.normal/\s'.t.length=s.t.length/\gtv o.dst s'.t av/\Mg F V 0 s.b s'.b b2) [o] ⟨msT rs 0 s.t,msB F V 0 s.b⟩) (hy1:nyF F 0 s.b=true) (hy2:nyF F 0 b2=true):FStep P ops o s rs F av b2:=by
 intro X s' hlt hlb hrs hF a w hsat;obtain ⟨X1,φ,κ,f,hX1,hs⟩:=hsat
 let V:Nat->Nat:=fun j=>(s'.b.getD j ⟨0,.x⟩).u
 have hV:∀ (j:Nat) (e:Sl),s'.b[j]? = some e->V j=e.u:=fun j e he=>by simp [V,List.getD_eq_getElem?_getD,he]
 let f0:Nat->Ct:=fun i=>if inN i F then f i else Ct.z
 let f1:Nat->Ct:=fun i=>if inN i F then Ct.z else f i
 have hpart:∀ x,sumF f s'.b.length x=sumF f0 s'.b.length x + sumF f1 s'.b.length x:=fun x=>sumF_part x _
 have hone:∀ x,sumF f0 s'.b.length x + sumF f1 s'.b.length x<=1:=fun x=>by have:=hs.one x;rw [←hpart];simp only [Ct.z] at this;omega
 have hown:∀ x,sumF f0 s'.b.length x + sumF f1 s'.b.length x≠0->x < w.heap.size/\(X1.S0 x≠0\/X1.w0.heap.size<=x):=fun x hx=>hs.own x (by rw [hpart];simp only [Ct.z];omega)
 have hrd:∀ x,X1.R x->x < w.heap.size/\sumF f0 s'.b.length x=0/\sumF f1 s'.b.length x=0:=fun x hx=>by
  have:=hs.rd x hx;rw [hpart] at this;exact ⟨this.1,by omega,by omega⟩
 have hbl:∀ j:Nat,(msB F V 0 s.b)[j]? = (s'.b[j]?).map fun e=>match inN j F with|true=>e|false=>⟨V j,.o⟩:=fun j=>by
  rw [msB_at,Nat.zero_add]
  cases hj:inN j F with
  | true=>rw [hF j hj]
  | false=>
   by_cases hjl:j < s.b.length
   ·rw [List.getElem?_eq_getElem hjl,List.getElem?_eq_getElem (by omega)];rfl
   ·rw [List.getElem?_eq_none (by omega),List.getElem?_eq_none (by omega),Option.map_none]
 have h0:SatW ⟨X1.R,w,sumF f0 s'.b.length,[],φ,κ,X1.ρ,false,X1.dB,X1.mks⟩ φ κ f0 Ct.z ⟨msT rs 0 s.t,msB F V 0 s.b⟩ a w:=
  { tm:=RC.of_at (by have:=hs.tm.length;rw [msT_len];omega) fun i x hi=>by
     rw [msT_at,Nat.zero_add] at hi;obtain ⟨y,hy,rfl⟩:=Option.map_eq_some_iff.1 hi
     cases hr:inN i rs with
     | true=>
      have:=hrs i hr;exact hs.tm.at_ (by rw [this,hy])
     | false=>
      have hil:i < s'.t.length:=by rw [hlt];exact (List.getElem?_eq_some_iff.1 hy).1
      obtain ⟨v,hv,_⟩:=hs.tm.at_ (List.getElem?_eq_getElem hil);exact ⟨v,hv,.de⟩
    df:=⟨hs.df.df,fun i u J hi=>by
     rw [hbl] at hi;obtain ⟨y,hy,he⟩:=Option.map_eq_some_iff.1 hi
     cases hr:inN i F with
     | true=>
      rw [hr] at he;dsimp only at he;subst he
      have:=nyF_at (i:=i) hy1 (by rw [←hF i hr];exact hy);rw [Nat.zero_add,hr] at this;cases this
     | false=>rw [hr] at he;cases he⟩
    sl:=fun i e hi=>by
     rw [hbl] at hi;obtain ⟨y,hy,rfl⟩:=Option.map_eq_some_iff.1 hi
     cases hr:inN i F with
     | true=>simpa [f0,hr] using hs.sl i y hy
     | false=>simpa [f0,hr] using RS.o
    one:=fun x=>by rw [msB_len,←hlb];have:=hone x;simp only [Ct.z];omega
    own:=fun x hx=>by
     rw [msB_len,←hlb] at hx;simp only [Ct.z] at hx;exact ⟨(hown x (by omega)).1,.inl (by dsimp only;omega)⟩
    rd:=fun x hx=>by rw [msB_len,←hlb];have:=hrd x hx;exact ⟨this.1,by simp only [Ct.z];omega⟩
    fr:=Fr.refl _ _
    bas:=⟨(fun i g hi=>by simp at hi),(fun _ _ _ h=>h),fun _ _ _ h=>h⟩
    new:=fun i v hv=>hs.new i v fun e he=>by
     have:=hv (match inN i F with|true=>e|false=>⟨V i,.o⟩) (by rw [hbl,he];rfl)
     cases hr:inN i F with
     | true=>rw [hr] at this;exact this
     | false=>rw [hr] at this;rw [←hV i e he];exact this }
 have hap:=h ⟨X1.R,w,sumF f0 s'.b.length,[],φ,κ,X1.ρ,false,X1.dB,X1.mks⟩ V a w ⟨_,φ,κ,f0,.rfl,h0⟩;rw [←hX1.ρ];refine wpL_turn (fun e a w ⟨s',h,_⟩=>h.1) ?_ hap;rintro a' w' ⟨v0,htm⟩ ⟨s1,⟨he,hl1,hgt,hmg⟩,X3,φ3,κ3,f3,hX3,hs3⟩;obtain ⟨hlm1,hlm2⟩:=hmg.len;have hmat:=hmg.at_;simp only [Nat.zero_add] at hmat;have hp3:X3.p0=φ:=hX3.p0;have hq3:X3.q0=κ:=hX3.q0;obtain ⟨hw3,hS3,hdn⟩:=hX3.fx rfl;have hdn:∀ x,X3.R x->X1.R x\/sumF f0 s'.b.length x≠0\/w.heap.size<=x:=hdn;have hφ:∀ b u g,φ b u=some g->φ3 b u=some g:=fun b u g hg=>hs3.bas.2.1 b u g (by rw [hp3];exact hg)
 have hκ:∀ b u v,κ b u=some v->κ3 b u=some v:=fun b u g hg=>hs3.bas.2.2 b u g (by rw [hq3];exact hg)
 have hfr:Fr w w' (sumF f0 s'.b.length):=by have:=hs3.fr;rwa [hw3,hS3] at this
 have hsz:=hfr.size;have hR:∀ x,X1.R x->w'.heap[x]? = w.heap[x]?:=fun x hx=>hfr.block x (hrd x hx).1 (hrd x hx).2.1
 have hup:∀ x,X1.R x->X3.R x:=hX3.up
 have hO:∀ i,i < s'.b.length->inN i F=false->∀ x,f i x≠0->w'.heap[x]? = w.heap[x]?:=fun i hi hn x hx=>by
  have h1:=sumF_le f1 x _ i hi;have h2:f1 i x=f i x:=by simp [f1,hn]
  have h3:=hone x;exact hfr.block x (hown x (by omega)).1 (by omega)
 let g3:Nat->Ct:=fun i=>if inN i F then f3 i else Ct.z
 let f4:Nat->Ct:=fun i=>if inN i F then f3 i else f i
 have hp4:∀ x,sumF f4 s'.b.length x=sumF g3 s'.b.length x + sumF f1 s'.b.length x:=fun x=>by
  have h1:=sumF_part (p:=fun i=>inN i F) (f:=f4) x s'.b.length;have e1:(fun i=>if inN i F=true then f4 i else Ct.z)=g3:=funext fun i=>by simp only [f4,g3];split<;>rfl
  have e2:(fun i=>if inN i F=true then Ct.z else f4 i)=f1:=funext fun i=>by simp only [f4,f1];split<;>rfl
  rw [e1,e2] at h1;exact h1
 have hg3:∀ x,sumF g3 s'.b.length x<=sumF f3 s'.b.length x:=fun x=>sumF_mono (fun i x=>by simp only [g3];split<;>simp [Ct.z]) x _
 have h1b:s1.b.length=s'.b.length:=by omega
 have hone3:∀ x,sumF f3 s'.b.length x<=1:=fun x=>by have:=hs3.one x;rw [h1b] at this;simp only [Ct.z] at this;omega
 have hown3:∀ x,sumF f3 s'.b.length x≠0->x < w'.heap.size/\(sumF f0 s'.b.length x≠0\/w.heap.size<=x):=fun x hx=>by
  have:=hs3.own x (by rw [h1b];simp only [Ct.z];omega)
  rwa [hS3,hw3] at this
 have hdis:∀ x,sumF f1 s'.b.length x≠0->sumF f3 s'.b.length x=0:=fun x hx=>by
  have h1:=hown3 x;have h2:=hown x (by omega);have h3:=hone x;omega
 have hdn':∀ x,X3.R x->X1.R x\/X1.S0 x≠0\/X1.w0.heap.size<=x:=fun x hx=>by
  rcases hdn x hx with h1|h1|h1
  ·exact .inl h1
  ·exact .inr (hown x (by omega)).2
  ·have:=hs.fr.size;exact .inr (.inr (by omega))
 refine ⟨⟨dput o.dst av s'.t,ovB F 0 b2 s'.b⟩,⟨rfl,rfl⟩,X1.gr X3.R,φ3,κ3,f4,hX1.trans (Cx.le_gr hup hdn'),?_⟩
 have hb4:∀ i:Nat,(ovB F 0 b2 s'.b)[i]? = match inN i F with|true=>b2[i]?|false=>s'.b[i]?:=fun i=>by
  rw [ovB_at (by omega),Nat.zero_add]
 exact
  { tm:=RC.of_at (by
     have h1:=hs3.tm.length;have h2:(dput o.dst av s'.t).length=s'.t.length:=by unfold dput;split<;>simp
     show a'.tmps.toList.length=(dput o.dst av s'.t).length
     rw [h1,h2,hl1,hlt]) fun i x hi=>by
     have hkeep:∀ y,s'.t[i]? = some y->(∀ d,o.dst=some d->d≠i)->∃ v,a'.tmps.toList[i]? = some v/\RV w' φ3 κ3 X3.R y v Ct.z:=fun y hy hd=>by
      obtain ⟨v,hv,hr⟩:=hs.tm.at_ hy;refine ⟨v,?_,RV.hist hφ hκ hup (RV.keep hR hr fun b hb=>absurd rfl hb)⟩;rw [htm];unfold Act.put
      cases ho:o.dst with
      | none=>exact hv
      | some d=>simp only [Array.toList_setIfInBounds];rw [List.getElem?_set_ne (hd d ho)];exact hv
     unfold dput at hi
     cases ho:o.dst with
     | none=>rw [ho] at hi;exact hkeep x hi fun d hd=>by rw [ho] at hd;cases hd
     | some d=>
      rw [ho] at hi;dsimp only at hi
      by_cases hdi:d=i
      ·subst hdi;rw [List.getElem?_set] at hi;simp only [if_true] at hi;split at hi
       ·rename_i hdl
        injection hi with hi;subst hi
        rw [ho] at hgt;simp only [gtv] at hgt;have hdl1:d < s1.t.length:=by rw [hl1,←hlt];exact hdl
        have:s1.t[d]? = some av:=hgt hdl1;exact hs3.tm.at_ this
       ·cases hi
      ·rw [List.getElem?_set_ne hdi] at hi;exact hkeep x hi fun d' hd'=>by rw [ho] at hd';injection hd' with hd';subst hd';exact hdi
    df:=⟨by
     have:=hs3.df.df;rw [hX3.dB,hX3.mks] at this;exact this,fun i u J hi=>by
     rw [hb4] at hi
     cases hr:inN i F with
     | true=>
      rw [hr] at hi;have:=nyF_at (i:=i) hy2 hi;rw [Nat.zero_add,hr] at this;cases this
     | false=>
      rw [hr] at hi;obtain ⟨R0,q1,q2,q3⟩:=hs.df.yd i u J hi;exact ⟨R0,q1,fun x hx=>hup x (q2 x hx),fun x hx=>(hdn' x hx).elim (q3 x) .inr⟩⟩
    sl:=fun i e hi=>by
     rw [hb4] at hi
     cases hr:inN i F with
     | true=>
      rw [hr] at hi;dsimp only at hi;rw [(hmat i).1 hr] at hi
      simpa [f4,hr] using hs3.sl i e hi
     | false=>
      rw [hr] at hi;dsimp only at hi;have hil:=(List.getElem?_eq_some_iff.1 hi).1;have:=RS.rmono hup (RS.hist hφ hκ (RS.keep hR (hs.sl i e hi) (hO i hil hr)))
      simpa [f4,hr] using this
    one:=fun x=>by
     rw [ovB_len,hp4];have h1:=hg3 x;have h2:=hone3 x;have h3:=hone x;have h4:=hdis x;simp only [Ct.z];omega
    own:=fun x hx=>by
     rw [ovB_len,hp4] at hx;simp only [Ct.z] at hx
     by_cases h1:sumF f1 s'.b.length x=0
     ·have h2:=hg3 x;have h3:=hown3 x (by omega);refine ⟨h3.1,?_⟩;rcases h3.2 with h4|h4
      ·exact (hown x (by omega)).2
      ·have:=hs.fr.size;exact .inr (by dsimp only at h4 ⊢;omega)
     ·have:=hown x (by omega);exact ⟨by omega,this.2⟩
    rd:=fun x hx=>by
     rw [ovB_len,hp4];have h1:=hs3.rd x hx;rw [h1b] at h1;have h2:=hg3 x
     have h3:sumF f1 s'.b.length x=0:=by
      rcases hdn x hx with h4|h4|h4
      ·exact (hrd x h4).2.2
      ·have:=hone x;omega
      ·have:=hown x;omega
     exact ⟨h1.1,by simp only [Ct.z] at *;omega⟩
    fr:=by
     have h1:=hs.fr;refine ⟨hfr.os.trans h1.os,hfr.tape.trans h1.tape,hfr.output.trans h1.output,Nat.le_trans h1.size hfr.size,fun b hb hS=>?_⟩;have h2:=hown b;have h5:=hone b;rw [hfr.block b (Nat.lt_of_lt_of_le hb h1.size) (by dsimp only at hb hS;omega)];exact h1.block b hb hS
    bas:=⟨fun i g hi=>hφ _ _ _ (hs.bas.1 i g hi),fun b u g hi=>hφ _ _ _ (hs.bas.2.1 b u g hi),fun b u g hi=>hκ _ _ _ (hs.bas.2.2 b u g hi)⟩
    new:=fun i v hv=>hs3.new i v fun e he=>by
     cases hr:inN i F with
     | true=>
      refine hv e ?_;rw [hb4,hr];dsimp only;rw [(hmat i).1 hr];exact he
     | false=>
      have h1:=(hmat i).2 hr;rw [h1.2] at he;obtain ⟨y,hy,rfl⟩:=Option.map_eq_some_iff.1 he;have hil:i < s'.b.length:=by rw [hlb];exact (List.getElem?_eq_some_iff.1 hy).1
      have h2:=hv (s'.b[i]'hil) (by rw [hb4,hr];exact List.getElem?_eq_getElem hil);rw [hV i _ (List.getElem?_eq_getElem hil)];exact h2 }
end
structure Fp where
 rs:List Nat
 d:Option Nat
 F:List Nat
 w:Bool
def inS (i:Nat):Option Nat->Bool
 | some d=>i == d
 | none=>false
def meet:List Nat->List Nat->Bool
 | [],_=>false
 | n :: l,m=>match inN n m with
  | true=>true
  | false=>meet l m
def dNotIn (d:Option Nat) (l:List Nat):Bool:=
 match d with
 | some d=>!(inN d l)
 | none=>true
def indep (a b:Fp):Bool:=
 dNotIn a.d b.rs && dNotIn b.d a.rs && (match a.d,b.d with|some i,some j=>!(i == j) | _,_=>true) && (!(a.w || b.w) || !(meet a.F b.F))
def depL (o:Oper):List Nat:=o.after.toList.filterMap fun e=>match Region.binds .any e with|true=>some e.on|false=>none
def ancs:List Oper->List (List Nat)->List (List Nat)
 | [],acc=>acc
 | o :: l,acc=>ancs l (acc ++ [(depL o).flatMap fun d=>d :: acc.getD d []])
def okRow (A:List Nat) (b:Fp):Nat->List Fp->Bool
 | _,[]=>true
 | i,a :: l=>(match inN i A with|true=>true|false=>indep a b) && okRow A b (i + 1) l
def okAll (As:List (List Nat)) (fs:List Fp):Nat->List Fp->Bool
 | _,[]=>true
 | k,b :: l=>okRow (As.getD k []) b 0 (fs.take k) && okAll As fs (k + 1) l
def okD (l:List Oper) (fs:List Fp):Bool:=okAll (ancs l []) fs 0 fs
structure Rc where
 fp:Fp
 av:AV
 b2:List Sl
def app (r:Rc) (s:AS):AS:=⟨dput r.fp.d r.av s.t,match r.fp.w with|true=>ovB r.fp.F 0 r.b2 s.b|false=>s.b⟩
def jn:List Rc->List Bool->AS->AS
 | r :: rs,x :: xs,s=>jn rs xs (match x with|true=>app r s|false=>s)
 | _,_,s=>s
inductive Tr (P:Program) (ops:Array Oper):AS->List Oper->List Rc->AS->Prop
 | nil {s}:Tr P ops s [] [] s
 | cons {s o l r rs s'}:r.fp.d=o.dst->r.b2.length=s.b.length->(r.fp.w=false->r.b2=s.b)->(∀ j,inN j r.fp.F=false->r.b2[j]? = s.b[j]?)->FStep P ops o s r.fp.rs r.fp.F r.av r.b2 ->
  Tr P ops ⟨dput o.dst r.av s.t,r.b2⟩ l rs s'->Tr P ops s (o :: l) (r :: rs) s'
def wrT (r:Rc) (i:Nat):Bool:=inS i r.fp.d
def wrB (r:Rc) (j:Nat):Bool:=r.fp.w && inN j r.fp.F
section
variable {P:Program} {ops:Array Oper} {s s':AS}
theorem dput_len {d:Option Nat} {av:AV} {t:List AV}:(dput d av t).length=t.length:=by unfold dput;split<;>simp
theorem dput_at {d:Option Nat} {av:AV} {t:List AV} {i:Nat}:(dput d av t)[i]? = match inS i d && decide (i < t.length) with|true=>some av|false=>t[i]?:=by
 unfold dput inS
 cases d with
 | none=>simp
 | some d=>
  dsimp only;rw [List.getElem?_set]
  by_cases h:d=i
  ·subst h
   by_cases h2:d < t.length
   ·simp [h2]
   ·simp [h2]
  ·have:(i == d)=false:=by simp;omega
   simp [h,this]
theorem app_t {r:Rc} {i:Nat}:(app r s).t[i]? = match wrT r i && decide (i < s.t.length) with|true=>some r.av|false=>s.t[i]?:=dput_at
theorem app_b {r:Rc} {j:Nat} (h:r.b2.length=s.b.length):(app r s).b[j]? = match wrB r j with|true=>r.b2[j]?|false=>s.b[j]?:=by
 unfold app wrB
 cases hw:r.fp.w with
 | false=>simp
 | true=>simp only [Bool.true_and];rw [ovB_at h,Nat.zero_add]<;>cases inN j r.fp.F<;>rfl
theorem app_len {r:Rc}:(app r s).t.length=s.t.length/\(app r s).b.length=s.b.length:=by
 unfold app;refine ⟨dput_len,?_⟩;dsimp only;split
 ·exact ovB_len
 ·rfl
theorem jn_len:∀ {rs:List Rc} {xs:List Bool} {s:AS},(jn rs xs s).t.length=s.t.length/\(jn rs xs s).b.length=s.b.length
 | [],_,_=>⟨by simp [jn],by simp [jn]⟩
 | _ :: _,[],_=>⟨by simp [jn],by simp [jn]⟩
 | r :: rs,x :: xs,s=>by
  cases x with
  | true=>have:=jn_len (rs:=rs) (xs:=xs) (s:=app r s);rw [app_len.1,app_len.2] at this;exact this
  | false=>exact jn_len (rs:=rs) (xs:=xs) (s:=s)
theorem jn_t {i:Nat}:∀ {rs:List Rc} {xs ys:List Bool} {s s':AS},xs.length=rs.length->ys.length=rs.length->s.t.length=s'.t.length->s.t[i]? = s'.t[i]? ->
 (∀ (k:Nat) (r:Rc),rs[k]? = some r->wrT r i=true->xs[k]? = ys[k]?)->(jn rs xs s).t[i]? = (jn rs ys s').t[i]?
 | [],xs,ys,s,s',_,_,_,he,_=>by simp [jn,he]
 | r :: rs,[],_,_,_,h,_,_,_,_=>by simp at h
 | r :: rs,_ :: _,[],_,_,_,h,_,_,_=>by simp at h
 | r :: rs,x :: xs,y :: ys,s,s',h1,h2,hl,he,hw=>by
  have hw':∀ (k:Nat) (r:Rc),rs[k]? = some r->wrT r i=true->xs[k]? = ys[k]?:=fun k r' hk hr=>by simpa using hw (k + 1) r' (by simpa using hk) hr
  simp only [jn];refine jn_t (by simpa using h1) (by simpa using h2) ?_ ?_ hw'
  ·cases x<;>cases y<;>simp [app_len.1,hl]
  ·have hxy:wrT r i=true->x=y:=fun h=>by simpa using hw 0 r rfl h
   cases hr:wrT r i with
   | true=>
    obtain rfl:=hxy hr
    cases x with
    | false=>exact he
    | true=>simp only [app_t,hr,Bool.true_and,hl,he]
   | false=>cases x<;>cases y<;>simp [app_t,hr,he]
theorem jn_b {j:Nat}:∀ {rs:List Rc} {xs ys:List Bool} {s s':AS},xs.length=rs.length->ys.length=rs.length->(∀ r∈rs,r.b2.length=s.b.length)->s.b.length=s'.b.length->s.b[j]? = s'.b[j]? ->
 (∀ (k:Nat) (r:Rc),rs[k]? = some r->wrB r j=true->xs[k]? = ys[k]?)->(jn rs xs s).b[j]? = (jn rs ys s').b[j]?
 | [],xs,ys,s,s',_,_,_,_,he,_=>by simp [jn,he]
 | r :: rs,[],_,_,_,h,_,_,_,_,_=>by simp at h
 | r :: rs,_ :: _,[],_,_,_,h,_,_,_,_=>by simp at h
 | r :: rs,x :: xs,y :: ys,s,s',h1,h2,hb,hl,he,hw=>by
  have hw':∀ (k:Nat) (r:Rc),rs[k]? = some r->wrB r j=true->xs[k]? = ys[k]?:=fun k r' hk hr=>by simpa using hw (k + 1) r' (by simpa using hk) hr
  have hb0:=hb r (by simp);simp only [jn];refine jn_b (by simpa using h1) (by simpa using h2) (fun r' hr'=>?_) ?_ ?_ hw'
  ·cases x<;>simp [app_len.2,hb r' (by simp [hr'])]
  ·cases x<;>cases y<;>simp [app_len.2,hl]
  ·have hxy:wrB r j=true->x=y:=fun h=>by simpa using hw 0 r rfl h
   cases hr:wrB r j with
   | true=>
    obtain rfl:=hxy hr
    cases x with
    | false=>exact he
    | true=>rw [app_b hb0,app_b (by omega),hr]
   | false=>cases x<;>cases y<;>simp [app_b hb0,app_b (s:=s') (r:=r) (j:=j) (by omega),hr,he]
theorem jn_set_t {i:Nat}:∀ {rs:List Rc} {xs:List Bool} {s:AS} {k:Nat} {r:Rc},xs.length=rs.length->rs[k]? = some r->xs[k]? = some false ->
 (∀ (m:Nat) (r':Rc),k < m->rs[m]? = some r'->xs[m]? = some true->¬ (wrT r i=true/\wrT r' i=true))->(jn rs (xs.set k true) s).t[i]? = (app r (jn rs xs s)).t[i]?
 | [],_,_,k,_,_,h,_,_=>by simp at h
 | r0 :: rs,[],_,_,_,h,_,_,_=>by simp at h
 | r0 :: rs,x :: xs,s,0,r,hl,hr,hx,hn=>by
  simp at hr hx;subst hr hx
  simp only [List.set_cons_zero,jn];rw [app_t]
  cases hw:wrT r0 i with
  | false=>
   simp only [Bool.false_and];exact jn_t (by simpa using hl) (by simpa using hl) app_len.1 (by simp [app_t,hw]) fun _ _ _ _=>rfl
  | true=>
   have e:(jn rs xs (app r0 s)).t[i]? = (app r0 s).t[i]?:=by
    have h1:=jn_t (i:=i) (rs:=rs) (xs:=xs) (ys:=List.replicate rs.length false) (s:=app r0 s) (s':=app r0 s) (by simpa using hl) (by simp) rfl rfl fun m r' hm hr'=>by
     have h2:=hn (m + 1) r' (by omega) (by simpa using hm);have hml:m < rs.length:=(List.getElem?_eq_some_iff.1 hm).1;rw [List.getElem?_replicate,if_pos hml];have hxl:m < xs.length:=by simp at hl;omega
     rw [List.getElem?_eq_getElem hxl]
     cases hxm:xs[m] with
     | false=>rfl
     | true=>exact absurd ⟨hw,hr'⟩ (h2 (by simp [List.getElem?_eq_getElem hxl,hxm]))
    rw [h1]
    have:∀ (rs:List Rc) (s:AS),jn rs (List.replicate rs.length false) s=s:=fun rs=>by
     induction rs with
     | nil=>intro s;simp [jn]
     | cons r rs ih=>intro s;simp [List.replicate_succ,jn,ih]
    rw [this]
   rw [e,app_t,hw,jn_len.1];split
   ·rfl
   ·rename_i hlt
    have hge:s.t.length<=i:=by simpa using hlt
    rw [List.getElem?_eq_none hge,List.getElem?_eq_none (by rw [jn_len.1];exact hge)]
 | r0 :: rs,x :: xs,s,k + 1,r,hl,hr,hx,hn=>by
  have this:=fun s=>jn_set_t (i:=i) (rs:=rs) (xs:=xs) (s:=s) (k:=k) (r:=r) (by simpa using hl) (by simpa using hr) (by simpa using hx) fun m r' hm h1 h2=>hn (m + 1) r' (by omega) (by simpa using h1) (by simpa using h2)
  simp only [List.set_cons_succ,jn];exact this _
theorem jn_none:∀ (rs:List Rc) (s:AS),jn rs (List.replicate rs.length false) s=s
 | [],s=>by simp [jn]
 | r :: rs,s=>by simp [List.replicate_succ,jn,jn_none rs]
theorem jn_set_b {j:Nat}:∀ {rs:List Rc} {xs:List Bool} {s:AS} {k:Nat} {r:Rc},xs.length=rs.length->(∀ r∈rs,r.b2.length=s.b.length)->rs[k]? = some r->xs[k]? = some false ->
 (∀ (m:Nat) (r':Rc),k < m->rs[m]? = some r'->xs[m]? = some true->¬ (wrB r j=true/\wrB r' j=true))->(jn rs (xs.set k true) s).b[j]? = (app r (jn rs xs s)).b[j]?
 | [],_,_,k,_,_,_,h,_,_=>by simp at h
 | r0 :: rs,[],_,_,_,h,_,_,_,_=>by simp at h
 | r0 :: rs,x :: xs,s,0,r,hl,hb,hr,hx,hn=>by
  simp at hr hx;subst hr hx
  simp only [List.set_cons_zero,jn];have hb0:=hb r0 (by simp);rw [app_b (by rw [jn_len.2];exact hb0)]
  cases hw:wrB r0 j with
  | false=>
   dsimp only;exact jn_b (by simpa using hl) (by simpa using hl) (fun r' hr'=>by rw [app_len.2];exact hb r' (by simp [hr'])) app_len.2 (by simp [app_b hb0,hw]) fun _ _ _ _=>rfl
  | true=>
   dsimp only
   have h1:=jn_b (j:=j) (rs:=rs) (xs:=xs) (ys:=List.replicate rs.length false) (s:=app r0 s) (s':=app r0 s) (by simpa using hl) (by simp) (fun r' hr'=>by rw [app_len.2];exact hb r' (by simp [hr'])) rfl rfl fun m r' hm hr'=>by
    have h2:=hn (m + 1) r' (by omega) (by simpa using hm);have hml:m < rs.length:=(List.getElem?_eq_some_iff.1 hm).1;rw [List.getElem?_replicate,if_pos hml];have hxl:m < xs.length:=by simp at hl;omega
    rw [List.getElem?_eq_getElem hxl]
    cases hxm:xs[m] with
    | false=>rfl
    | true=>exact absurd ⟨hw,hr'⟩ (h2 (by simp [List.getElem?_eq_getElem hxl,hxm]))
   rw [h1,jn_none,app_b hb0,hw]
 | r0 :: rs,x :: xs,s,k + 1,r,hl,hb,hr,hx,hn=>by
  have this:=fun s hs=>jn_set_b (j:=j) (rs:=rs) (xs:=xs) (s:=s) (k:=k) (r:=r) (by simpa using hl) hs (by simpa using hr) (by simpa using hx) fun m r' hm h1 h2=>hn (m + 1) r' (by omega) (by simpa using h1) (by simpa using h2)
  simp only [List.set_cons_succ,jn];exact this _ fun r' hr'=>by cases x<;>simp [app_len.2,hb r' (by simp [hr'])]
def pre (k n:Nat):List Bool:=List.replicate k true ++ List.replicate (n - k) false
theorem pre_at {k n i:Nat} (hi:i < n) (hk:k<=n):(pre k n)[i]? = some (decide (i < k)):=by
 unfold pre
 by_cases h:i < k
 ·rw [List.getElem?_append_left (by simpa using h)];simp [h]
 ·rw [List.getElem?_append_right (by simpa using h),List.getElem?_replicate,if_pos (by simp;omega)];simp [h]
theorem pre_len {k n:Nat} (hk:k<=n):(pre k n).length=n:=by simp [pre];omega
theorem Tr.app_eq {o:Oper} {r:Rc} (h1:r.fp.d=o.dst) (h2:r.b2.length=s.b.length) (h3:r.fp.w=false->r.b2=s.b) (h4:∀ j,inN j r.fp.F=false->r.b2[j]? = s.b[j]?):app r s=⟨dput o.dst r.av s.t,r.b2⟩:=by
 unfold app;rw [h1]
 congr 1
 cases hw:r.fp.w with
 | false=>exact (h3 hw).symm
 | true=>
  dsimp only;refine List.ext_getElem? fun j=>?_
  rw [ovB_at h2,Nat.zero_add]
  cases hj:inN j r.fp.F with
  | true=>rfl
  | false=>exact (h4 j hj).symm
theorem Tr.lens {l:List Oper} {rs:List Rc} (h:Tr P ops s l rs s'):rs.length=l.length/\∀ r∈rs,r.b2.length=s.b.length:=by
 induction h with
 | nil=>exact ⟨rfl,fun _ h=>by cases h⟩
 | cons h1 h2 h3 h4 _ _ ih=>
  refine ⟨by simp [ih.1],fun r hr=>?_⟩;rcases List.mem_cons.1 hr with rfl|hr
  ·exact h2
  ·have:=ih.2 r hr;dsimp only at this;omega
theorem Tr.at_ {l:List Oper} {rs:List Rc} (h:Tr P ops s l rs s'):∀ {k:Nat} {o:Oper} {r:Rc},l[k]? = some o->rs[k]? = some r ->
 r.fp.d=o.dst/\(r.fp.w=false->r.b2=(jn rs (pre k l.length) s).b)/\FStep P ops o (jn rs (pre k l.length) s) r.fp.rs r.fp.F r.av r.b2:=by
 induction h with
 | nil=>intro k o r h;simp at h
 | @cons s o l r rs s' h1 h2 h3 h4 h5 h6 ih=>
  intro k o' r' hk hr
  cases k with
  | zero=>
   simp at hk hr;subst hk hr
   have:jn (r :: rs) (pre 0 (l.length + 1)) s=s:=by
    have:=jn_none (r :: rs) s
    rwa [List.length_cons,h6.lens.1] at this
   simp only [List.length_cons,this];exact ⟨h1,h3,h5⟩
  | succ k=>
   have:=ih (k:=k) (by simpa using hk) (by simpa using hr)
   have e:jn (r :: rs) (pre (k + 1) (l.length + 1)) s=jn rs (pre k l.length) ⟨dput o.dst r.av s.t,r.b2⟩:=by
    rw [←Tr.app_eq h1 h2 h3 h4];simp only [pre,List.replicate_succ,List.cons_append,jn,show l.length + 1 - (k + 1)=l.length - k by omega]
   simp only [List.length_cons,e];exact this
theorem Tr.all {l:List Oper} {rs:List Rc} (h:Tr P ops s l rs s'):jn rs (List.replicate l.length true) s=s':=by
 induction h with
 | nil=>simp [jn]
 | @cons s o l r rs s' h1 h2 h3 h4 _ _ ih=>
  simp only [List.length_cons,List.replicate_succ,jn];rw [Tr.app_eq h1 h2 h3 h4];exact ih
theorem ancs_get:∀ {l:List Oper} {acc:List (List Nat)},(ancs l acc).length=acc.length + l.length/\∀ i,i < acc.length->(ancs l acc)[i]? = acc[i]?
 | [],acc=>⟨rfl,fun _ _=>rfl⟩
 | o :: l,acc=>by
  have:=ancs_get (l:=l) (acc:=acc ++ [(depL o).flatMap fun d=>d :: acc.getD d []]);simp only [ancs];refine ⟨by rw [this.1];simp;omega,fun i hi=>?_⟩;rw [this.2 i (by simp;omega),List.getElem?_append_left hi]
theorem inN_mem {n:Nat}:∀ {l:List Nat},inN n l=true↔n∈l
 | []=>by simp [inN]
 | m :: l=>by
  unfold inN
  cases h:n == m with
  | true=>have:=eq_of_beq h;simp [this]
  | false => have : n ≠ m := by simpa using h
             simp [this,inN_mem (l:=l)]
theorem depsOk_mem {b:List Bool} {o:Oper} (h:depsOk b o=true) {d:Nat} (hd:d∈depL o):b.getD d false=true:=by
 unfold depL at hd;obtain ⟨e,he,hed⟩:=List.mem_filterMap.1 hd;have:=List.all_eq_true.1 h e he
 cases hb:Region.binds .any e with
 | false=>rw [hb] at hed;cases hed
 | true=>rw [hb] at hed this;injection hed with hed;subst hed;simpa using this
theorem ancs_closed {b:List Bool}:∀ {l:List Oper} {acc:List (List Nat)},(∀ (k:Nat) (A:List Nat),acc[k]? = some A->b.getD k false=true->∀ i∈A,b.getD i false=true) ->
 (∀ (k:Nat) (o:Oper),l[k]? = some o->b.getD (acc.length + k) false=true->depsOk b o=true) ->
 ∀ (k:Nat) (A:List Nat),(ancs l acc)[k]? = some A->b.getD k false=true->∀ i∈A,b.getD i false=true
 | [],acc,h,_=>h
 | o :: l,acc,h,hd=>by
  refine ancs_closed (l:=l) (fun k A hk hb i hi=>?_) fun k o' hk hb=>?_
  ·by_cases hka:k < acc.length
   ·rw [List.getElem?_append_left hka] at hk;exact h k A hk hb i hi
   ·have hk0:k=acc.length:=by have:=(List.getElem?_eq_some_iff.1 hk).1;simp at this;omega
    subst hk0;simp at hk;subst hk
    obtain ⟨d,hd1,hd2⟩:=List.mem_flatMap.1 hi;have h1:=depsOk_mem (hd 0 o rfl (by simpa using hb)) hd1;rcases List.mem_cons.1 hd2 with rfl|hd2
    ·exact h1
    ·by_cases hdl:d < acc.length
     ·have e:acc[d]?.getD []=acc[d]:=by rw [List.getElem?_eq_getElem hdl];rfl
      rw [e] at hd2;exact h d _ (List.getElem?_eq_getElem hdl) h1 i hd2
     ·rw [List.getElem?_eq_none (by omega)] at hd2;simp at hd2
  ·have:=hd (k + 1) o' (by simpa using hk);rw [show acc.length + (k + 1)=(acc ++ [(depL o).flatMap fun d=>d :: acc.getD d []]).length + k by simp;omega] at this;exact this hb
theorem ancs_deps:∀ {l:List Oper} {acc:List (List Nat)} {k:Nat} {o:Oper} {b:List Bool},l[k]? = some o->depsOk b o=true ->
 (∀ (m:Nat) (A:List Nat),(ancs l acc)[m]? = some A->b.getD m false=true->∀ i∈A,b.getD i false=true)->∀ i∈(ancs l acc).getD (acc.length + k) [],b.getD i false=true
 | [],_,_,_,_,h,_,_=>by simp at h
 | o0 :: l,acc,0,o,b,h,hd,hc=>by
  intro i hi;simp at h;subst h
  simp only [ancs] at hi hc;have hg:=(ancs_get (l:=l) (acc:=acc ++ [(depL o0).flatMap fun d=>d :: acc.getD d []])).2;rw [List.getD_eq_getElem?_getD,Nat.add_zero,hg acc.length (by simp)] at hi;simp at hi;obtain ⟨d,hd1,hd2⟩:=hi;have h1:=depsOk_mem hd hd1;rcases hd2 with rfl|hd2
  ·exact h1
  ·by_cases hdl:d < acc.length
   ·have e:acc[d]?.getD []=acc[d]:=by rw [List.getElem?_eq_getElem hdl];rfl
    rw [e] at hd2;exact hc d acc[d] (by rw [hg d (by simp;omega),List.getElem?_append_left hdl,List.getElem?_eq_getElem hdl]) h1 i hd2
   ·rw [List.getElem?_eq_none (by omega)] at hd2;simp at hd2
 | o0 :: l,acc,k + 1,o,b,h,hd,hc=>by
  have:=ancs_deps (l:=l) (acc:=acc ++ [(depL o0).flatMap fun d=>d :: acc.getD d []]) (k:=k) (by simpa using h) hd hc;rw [show (acc ++ [(depL o0).flatMap fun d=>d :: acc.getD d []]).length + k=acc.length + (k + 1) by simp;omega] at this;exact this
theorem okRow_at {A:List Nat} {b:Fp}:∀ {l:List Fp} {n i:Nat} {a:Fp},okRow A b n l=true->l[i]? = some a->inN (n + i) A=true\/indep a b=true
 | [],_,_,_,_,h=>by simp at h
 | a0 :: l,n,0,a,h,ha=>by
  simp at ha;subst ha
  simp only [okRow,Bool.and_eq_true] at h;rw [Nat.add_zero]
  cases hi:inN n A with
  | true=>exact .inl rfl
  | false=>rw [hi] at h;exact .inr h.1
 | a0 :: l,n,i + 1,a,h,ha=>by
  simp only [okRow,Bool.and_eq_true] at h;have:=okRow_at (i:=i) h.2 (by simpa using ha)
  rwa [show n + 1 + i=n + (i + 1) by omega] at this
theorem okAll_at {As:List (List Nat)} {fs:List Fp}:∀ {l:List Fp} {n k:Nat} {b:Fp},okAll As fs n l=true->l[k]? = some b->okRow (As.getD (n + k) []) b 0 (fs.take (n + k))=true
 | [],_,_,_,_,h=>by simp at h
 | b0 :: l,n,0,b,h,hb=>by
  simp at hb;subst hb
  simp only [okAll,Bool.and_eq_true] at h;exact h.1
 | b0 :: l,n,k + 1,b,h,hb=>by
  simp only [okAll,Bool.and_eq_true] at h;have:=okAll_at (k:=k) h.2 (by simpa using hb)
  rwa [show n + 1 + k=n + (k + 1) by omega] at this
theorem okD_at {l:List Oper} {fs:List Fp} (h:okD l fs=true) {i k:Nat} {a b:Fp} (hik:i < k) (ha:fs[i]? = some a) (hb:fs[k]? = some b):i∈(ancs l []).getD k []\/indep a b=true:=by
 have h1:=okAll_at (k:=k) h hb;rw [Nat.zero_add] at h1;have h2:=okRow_at (i:=i) (a:=a) h1 (by rw [List.getElem?_take,if_pos hik];exact ha);rw [Nat.zero_add] at h2;exact h2.imp inN_mem.1 id
theorem indep_t {a b:Rc} (h:indep a.fp b.fp=true):(∀ i,wrT a i=true->inN i b.fp.rs=false)/\(∀ i,wrT b i=true->inN i a.fp.rs=false)/\∀ i,¬ (wrT a i=true/\wrT b i=true):=by
 simp only [indep,Bool.and_eq_true] at h;obtain ⟨⟨⟨h1,h2⟩,h3⟩,_⟩:=h;refine ⟨fun i hi=>?_,fun i hi=>?_,fun i ⟨hi,hj⟩=>?_⟩
 ·unfold wrT inS at hi;unfold dNotIn at h1;split at hi
  ·rename_i d hd
   rw [hd] at h1;have:=eq_of_beq hi;subst this;simpa using h1
  ·cases hi
 ·unfold wrT inS at hi;unfold dNotIn at h2;split at hi
  ·rename_i d hd
   rw [hd] at h2;have:=eq_of_beq hi;subst this;simpa using h2
  ·cases hi
 ·unfold wrT inS at hi hj;split at hi
  ·rename_i d hd
   split at hj
   ·rename_i d' hd'
    rw [hd,hd'] at h3;have e1:=eq_of_beq hi;have e2:=eq_of_beq hj;subst e1;subst e2
    simp at h3
   ·cases hj
  ·cases hi
theorem meet_of {j:Nat}:∀ {l m:List Nat},meet l m=false->inN j l=true->inN j m=false
 | [],_,_,h=>by simp [inN] at h
 | n :: l,m,h,hj=>by
  unfold meet at h;split at h
  ·cases h
  ·rename_i hn
   rcases List.mem_cons.1 (inN_mem.1 hj) with rfl|h1
   ·exact hn
   ·exact meet_of h (inN_mem.2 h1)
theorem indep_b {a b:Rc} (h:indep a.fp b.fp=true):(∀ j,wrB a j=true->inN j b.fp.F=false)/\∀ j,wrB b j=true->inN j a.fp.F=false:=by
 simp only [indep,Bool.and_eq_true] at h;have h4:=h.2;refine ⟨fun j hj=>?_,fun j hj=>?_⟩
 ·simp only [wrB,Bool.and_eq_true] at hj;rw [hj.1] at h4;exact meet_of (by simpa using h4) hj.2
 ·simp only [wrB,Bool.and_eq_true] at hj;rw [hj.1] at h4;have h5:meet a.fp.F b.fp.F=false:=by simpa using h4
  cases h6:inN j a.fp.F with
  | false=>rfl
  | true=>have:=meet_of h5 h6;rw [hj.2] at this;cases this
theorem Tr.steps {X:Cx} {l:List Oper} {rs:List Rc} (h:Tr P l.toArray s l rs s') (hok:okD l (rs.map (·.fp))=true) (b:List Bool) (hb:b.length=l.length) (hc:closedB l b b=true):∀ (n:Nat) (l':List Oper),l.drop n=l'->StepsP P X l.toArray (fun b=>jn rs b s) b n l':=by
 obtain ⟨hlen,hbl⟩:=h.lens
 have hcl:∀ (k:Nat) (A:List Nat),(ancs l [])[k]? = some A->b.getD k false=true->∀ i∈A,b.getD i false=true:=
  ancs_closed (fun k A hk=>by simp at hk) fun k o hk hbk=>closedB.at_ hc hk (by
   simp only [List.length_nil,Nat.zero_add] at hbk;have hkl:=(List.getElem?_eq_some_iff.1 hk).1;rw [List.getElem?_eq_getElem (by omega)];rw [List.getD_eq_getElem?_getD,List.getElem?_eq_getElem (by omega)] at hbk
   simpa using hbk)
 intro n l'
 induction l' generalizing n with
 | nil=>intro _;trivial
 | cons o l' ih=>
  intro hn;have ho:l[n]? = some o:=by rw [←List.head?_drop,hn];rfl
  have hnl:=(List.getElem?_eq_some_iff.1 ho).1;refine ⟨fun h1 h2=>?_,ih (n + 1) (by rw [←List.drop_drop,hn];rfl)⟩
  have hbn:b[n]? = some false:=by
   rw [List.getElem?_eq_getElem (by omega)];rw [List.getD_eq_getElem?_getD,List.getElem?_eq_getElem (by omega)] at h1
   simpa using h1
  have hrn:rs[n]? = some (rs[n]'(by omega)):=List.getElem?_eq_getElem (by omega);generalize rs[n]'(by omega)=r at hrn;obtain ⟨e1,e2,e3⟩:=h.at_ ho hrn
  have hanc:∀ i∈(ancs l []).getD n [],b.getD i false=true:=by
   have:=ancs_deps (l:=l) (acc:=[]) (k:=n) ho h2 hcl
   simpa using this
  -- of the others: done just if they stand ahead, where they have to do with it
  have key:∀ (k:Nat) (r':Rc),rs[k]? = some r'->k≠n->indep r.fp r'.fp=false->indep r'.fp r.fp=false->b[k]? = some (decide (k < n)):=fun k r' hk hkn hi hi'=>by
   have hkl:=(List.getElem?_eq_some_iff.1 hk).1;rcases Nat.lt_or_ge k n with hlt|hge
   ·rcases okD_at hok (a:=r'.fp) (b:=r.fp) hlt (by simp [hk]) (by simp [hrn]) with h3|h3
    ·have:=hanc k h3;rw [List.getD_eq_getElem?_getD,List.getElem?_eq_getElem (by omega)] at this;rw [List.getElem?_eq_getElem (by omega)]
     simpa [hlt] using this
    ·rw [hi'] at h3;cases h3
   ·have hlt:n < k:=by omega
    rcases okD_at hok (a:=r.fp) (b:=r'.fp) hlt (by simp [hrn]) (by simp [hk]) with h3|h3
    ·rw [List.getElem?_eq_getElem (by omega)]
     cases hbk:b[k] with
     | false=>simp;omega
     | true=>
      have hkA:(ancs l [])[k]? = some ((ancs l []).getD k []):=by
       rw [List.getD_eq_getElem?_getD,List.getElem?_eq_getElem (by rw [(ancs_get (l:=l) (acc:=[])).1];simp;omega)];rfl
      have:=hcl k _ hkA (by rw [List.getD_eq_getElem?_getD,List.getElem?_eq_getElem (by omega),hbk];rfl) n h3;rw [List.getD_eq_getElem?_getD,hbn] at this;cases this
    ·rw [hi] at h3;cases h3
  have fls:∀ {x:Bool},(x=true->False)->x=false:=fun h=>by cases hx:‹Bool›<;>first|rfl|exact (h hx).elim
  have hpl:(pre n l.length).length=rs.length:=by rw [pre_len (by omega)];omega
  have hT:∀ i,inN i r.fp.rs=true->(jn rs b s).t[i]? = (jn rs (pre n l.length) s).t[i]?:=fun i hi=>by
   refine jn_t (by omega) hpl rfl rfl fun k r' hk hw=>?_
   have hkl:=(List.getElem?_eq_some_iff.1 hk).1;rw [pre_at (by omega) (by omega)]
   by_cases hkn:k=n
   ·subst hkn;rw [hbn];simp
   ·refine key k r' hk hkn (fls fun h=>?_) (fls fun h=>?_)
    ·have:=(indep_t h).2.1 i hw;rw [hi] at this;cases this
    ·have:=(indep_t h).1 i hw;rw [hi] at this;cases this
  have hB:∀ j,inN j r.fp.F=true->(jn rs b s).b[j]? = (jn rs (pre n l.length) s).b[j]?:=fun j hj=>by
   refine jn_b (by omega) hpl hbl rfl rfl fun k r' hk hw=>?_
   have hkl:=(List.getElem?_eq_some_iff.1 hk).1;rw [pre_at (by omega) (by omega)]
   by_cases hkn:k=n
   ·subst hkn;rw [hbn];simp
   ·refine key k r' hk hkn (fls fun h=>?_) (fls fun h=>?_)
    ·have:=(indep_b h).2 j hw;rw [hj] at this;cases this
    ·have:=(indep_b h).1 j hw;rw [hj] at this;cases this
  have hst:=e3 X (jn rs b s) (by rw [jn_len.1,jn_len.1]) (by rw [jn_len.2,jn_len.2]) hT hB;have hbr:=hbl r (List.mem_of_getElem? hrn)
  have hgoal:(⟨dput o.dst r.av (jn rs b s).t,ovB r.fp.F 0 r.b2 (jn rs b s).b⟩:AS)=jn rs (b.set n true) s:=by
   have happ:(⟨dput o.dst r.av (jn rs b s).t,ovB r.fp.F 0 r.b2 (jn rs b s).b⟩:AS)=app r (jn rs b s):=by
    unfold app;rw [e1]
    congr 1
    cases hw:r.fp.w with
    | true=>rfl
    | false=>
     refine List.ext_getElem? fun j=>?_
     rw [ovB_at (by rw [jn_len.2];exact hbr),Nat.zero_add]
     cases hj:inN j r.fp.F with
     | false=>rfl
     | true=>dsimp only;rw [hB j hj,e2 hw]
   rw [happ]
   have hne:∀ (m:Nat) (r':Rc),n < m->rs[m]? = some r'->b[m]? = some true->indep r.fp r'.fp=true:=fun m r' hm hr' hbm=>by
    have hml:=(List.getElem?_eq_some_iff.1 hr').1;rcases okD_at hok (a:=r.fp) (b:=r'.fp) hm (by simp [hrn]) (by simp [hr']) with h3|h3
    ·have hkA:(ancs l [])[m]? = some ((ancs l []).getD m []):=by
      rw [List.getD_eq_getElem?_getD,List.getElem?_eq_getElem (by rw [(ancs_get (l:=l) (acc:=[])).1];simp;omega)];rfl
     have:=hcl m _ hkA (by rw [List.getD_eq_getElem?_getD,hbm];rfl) n h3;rw [List.getD_eq_getElem?_getD,hbn] at this;cases this
    ·exact h3
   have q1:(app r (jn rs b s)).t=(jn rs (b.set n true) s).t:=List.ext_getElem? fun i=>(jn_set_t (by omega) hrn hbn fun m r' hm hr' hbm h4=>(indep_t (hne m r' hm hr' hbm)).2.2 i h4).symm
   have q2:(app r (jn rs b s)).b=(jn rs (b.set n true) s).b:=List.ext_getElem? fun j=>(jn_set_b (by omega) hbl hrn hbn fun m r' hm hr' hbm h4=>by
    have:=(indep_b (hne m r' hm hr' hbm)).1 j h4.1;have h5:=h4.2;simp only [wrB,Bool.and_eq_true] at h5;rw [h5.2] at this;cases this).symm
   generalize app r (jn rs b s)=A at q1 q2
   cases A;cases hj:jn rs (b.set n true) s
   rw [hj] at q1 q2;dsimp only at q1 q2;subst q1;subst q2;rfl
  rw [hgoal] at hst;exact hst
def DW (P:Program) (ops:Array Oper) (all:List Oper) (K:AS->Prop):List Fp->List Oper->AS->Prop
 | acc,[],s=>okD all acc.reverse=true/\K s
 | acc,o :: l,s=>∃ r:Rc,r.fp.d=o.dst/\r.b2.length=s.b.length/\(r.fp.w=false->r.b2=s.b)/\(∀ j,inN j r.fp.F=false->r.b2[j]? = s.b[j]?)/\FStep P ops o s r.fp.rs r.fp.F r.av r.b2 /\
  DW P ops all K (r.fp :: acc) l ⟨dput o.dst r.av s.t,r.b2⟩
variable {all:List Oper} {K:AS->Prop} {acc:List Fp} {l:List Oper} {o:Oper} {X:Cx} {Q:Exit->AS->Prop}
theorem DW.tr:∀ {l:List Oper} {acc:List Fp} {s:AS},DW P ops all K acc l s->∃ rs s',Tr P ops s l rs s'/\okD all (acc.reverse ++ rs.map (·.fp))=true/\K s'
 | [],acc,s,h=>⟨[],s,.nil,by simpa using h.1,h.2⟩
 | o :: l,acc,s,⟨r,h1,h2,h3,h4,h5,h6⟩=>by
  obtain ⟨rs,s',h7,h8,h9⟩:=DW.tr h6;exact ⟨r :: rs,s',.cons h1 h2 h3 h4 h5 h7,by simpa using h8,h9⟩
theorem cp_drawW {id:Nat} (hm:P.follows .mixedOrders=true) (hf:fwdB 0 l=true) (h:DW P l.toArray l (fun s'=>Q .normal s') [] l s):CP P X (.region id l.toArray true) Q s:=by
 obtain ⟨rs,s',h1,h2,h3⟩:=h.tr;refine cp_drawI (fun s b=>jn rs b s) hm hf (by rw [←h1.lens.1];exact jn_none rs s) (fun b hb hc=>h1.steps (by simpa using h2) b hb hc 0 l rfl) ?_;rw [h1.all];exact h3
theorem cp_drwW {id:Nat} {y:Code} (hm:P.follows .mixedOrders=true) (hf:fwdB 0 l=true) (h:∀ Q':AS->Prop,(∀ s',CP P X y Q s'->Q' s')->DW P l.toArray l Q' [] l s):CP P X (.seq (.region id l.toArray true) y) Q s:=
 cp_seq (cp_drawW hm hf (h _ fun _ h=>h))
theorem DW.nil (h:okD all acc.reverse=true) (hk:K s):DW P ops all K acc [] s:=⟨h,hk⟩
theorem DW.k_any (h:DW P ops all K acc (o :: l) s):DW P ops all K acc (o :: l) s:=h
theorem DW.k_nil (h:DW P ops all K acc [] s):DW P ops all K acc [] s:=h
end
def xT:Operand->List Nat
 | .tmp t=>[t]
 | _=>[]
def xsT:List Operand->List Nat
 | []=>[]
 | x :: l=>xT x ++ xsT l
def psT:List (Nat×Operand)->List Nat
 | []=>[]
 | p :: l=>xT p.2 ++ psT l
def oT:Option Operand->List Nat
 | some x=>xT x
 | none=>[]
def cT:Callee->List Nat
 | .value f=>xT f
 | _=>[]
def opT:Op->List Nat
 | .move x=>xT x
 | .assign x=>xT x
 | .box _ x=>xT x
 | .load _ x=>xT x
 | .nilCheck x=>xT x
 | .unOp _ _ x=>xT x
 | .convert _ _ x=>xT x
 | .fieldAddr _ x _=>xT x
 | .field _ x _=>xT x
 | .extract x _=>xT x
 | .pick c a b=>xT c ++ (xT a ++ xT b)
 | .build _ ps=>psT ps.toList
 | .buildSlice _ _ ps=>psT ps.toList
 | .store _ a v=>xT a ++ xT v
 | .binOp _ _ a v _=>xT a ++ xT v
 | .makeSlice _ a v=>xT a ++ xT v
 | .indexAddr _ a v=>xT a ++ xT v
 | .index _ a v=>xT a ++ xT v
 | .makeFunc _ a b=>xsT a.toList ++ xsT b.toList
 | .slice _ x l h m=>xT x ++ (oT l ++ (oT h ++ oT m))
 | .lookup _ a v _=>xT a ++ xT v
 | .mapUpdate _ a k v=>xT a ++ (xT k ++ xT v)
 | .mapEntry _ a v=>xT a ++ xT v
 | .entryStore _ a k v=>xT a ++ (xT k ++ xT v)
 | .typeAssert x _ _ _=>xT x
 | .makeInterface _ x=>xT x
 | .sliceToArrayPointer _ x=>xT x
 | .call c=>cT c.callee ++ xsT c.args.toList
 | _=>[]
def gT (ops:Array Oper):Option (Nat×Bool)->List Nat
 | none=>[]
 | some (j,_)=>match ops[j]? with
  | some o=>match o.dst with
   | some d=>[d]
   | none=>[]
  | none=>[]
def opTs (ops:Array Oper) (o:Oper):List Nat:=opT o.op ++ gT ops o.guard
mutual
def bxs:AV->List Nat
 | .pz l=>l.map (·.1)
 | .bp b _ _=>[b]
 | .vp b _ _=>[b]
 | .ep b _ _ _ _=>[b]
 | .hd b _=>[b]
 | .hf b _=>[b]
 | .sb b _ _ _ _ _=>[b]
 | .fn _ c=>bxl c
 | .ag l=>bxl l
 | .tu l=>bxl l
 | _=>[]
def bxl:List AV->List Nat
 | []=>[]
 | a :: l=>bxs a ++ bxl l
end
def hdx:AV->List Nat
 | .hd b _=>[b]
 | .hf b _=>[b]
 | .sb b _ _ _ _ _=>[b]
 | _=>[]
def hdl:List AV->List Nat
 | []=>[]
 | a :: l=>hdx a ++ hdl l
def dpx:AV->List Nat
 | .pz l=>l.map (·.1)
 | .vp b _ _=>[b]
 | .hd b _=>[b]
 | .hf b _=>[b]
 | .sb b _ _ _ _ _=>[b]
 | .bp b _ _=>[b]
 | _=>[]
def dpl:List AV->List Nat
 | []=>[]
 | a :: l=>dpx a ++ dpl l
def cdl (b:List Sl) (j:Nat):List Nat:=
 match b[j]? with
 | some ⟨_,.c _ l⟩=>dpl l
 | some ⟨_,.f _ _ _ _ c⟩=>dpl c
 | some ⟨_,.m _ _ (some (_,c)) _⟩=>dpl c
 | _=>[]
def kids (b:List Sl):List Nat->List Nat
 | []=>[]
 | j :: js=>cdl b j ++ kids b js
def clbN:Nat->List Sl->List Nat->List Nat
 | _,_,[]=>[]
 | 0,_,j :: js=>j :: js
 | n + 1,b,j :: js=>(j :: js) ++ clbN n b (kids b (j :: js))
def clb (b:List Sl) (js:List Nat):List Nat:=clbN 6 b js
def ddl:Nat->Nat->List Sl->List Nat
 | 0,_,_=>[]
 | _ + 1,_,[]=>[]
 | m + 1,n,⟨_,.x⟩ :: l=>n :: ddl m (n + 1) l
 | m + 1,n,_ :: l=>ddl (m + 1) (n + 1) l
def axs (s:AS):List Operand->List Nat
 | []=>[]
 | x :: l=>bxs (aev s x) ++ axs s l
def hxs (s:AS):List Operand->List Nat
 | []=>[]
 | x :: l=>hdx (aev s x) ++ hxs s l
def pxs (s:AS):List (Nat×Operand)->List Nat
 | []=>[]
 | p :: l=>clb s.b (dpl (aev s p.2).cells) ++ pxs s l
def ftF (m:Nat) (s:AS):Op->List Nat
 | .load _ x=>bxs (aev s x)
 | .store _ x _=>bxs (aev s x)
 | .indexAddr _ x _=>hdx (aev s x)
 | .slice _ x _ _ _=>bxs (aev s x)
 | .call ⟨.builtin _,xs,_⟩=>hxs s xs.toList ++ ddl m 0 s.b
 | .call ⟨.value f,xs,_⟩=>clb s.b (bxs (aev s f) ++ axs s xs.toList) ++ ddl m 0 s.b
 | .buildSlice _ _ ps=>pxs s ps.toList ++ ddl m 0 s.b
 | .box _ _=>ddl m 0 s.b
 | .alloc _=>ddl m 0 s.b
 | .makeSlice _ _ _=>ddl m 0 s.b
 | .lookup _ x _ _=>hdx (aev s x)
 | .mapUpdate _ x _ _=>hdx (aev s x)
 | .mapEntry _ x _=>hdx (aev s x) ++ ddl m 0 s.b
 | .entryStore _ x _ _=>hdx (aev s x)
 | .makeMap _ _=>ddl m 0 s.b
 | _=>[]
section
variable {P:Program} {ops:Array Oper} {s s':AS} {all:List Oper} {K:AS->Prop} {acc:List Fp} {l:List Oper} {op:Op} {ty:TypeId} {pos:String} {aft:Array Edge} {g:Option (Nat×Bool)} {d:Nat} {T F:List Nat} {av:AV} {b2:List Sl}
theorem gtv_set {t:List AV} {t':List AV} (h:t'=t.set d av):gtv (some d) t' av:=by
 subst h;intro hd;rw [List.getElem?_set];simp;simpa using hd
theorem Mg.same {F:List Nat} {V:Nat->Nat}:∀ {l:List Sl} {n:Nat},Mg F V n l (msB F V n l) l
 | [],n=>.nil
 | e :: l,n=>by
  unfold msB
  cases h:inN n F with
  | true=>exact .take h Mg.same
  | false=>exact .keep h Mg.same
theorem DW.rd (m:Nat) (hT:opTs ops ⟨some d,op,ty,pos,aft,g⟩=T) (hF:ftF m s op=F) (h:∀ X V,AP P X ops (fun e s'=>e=.normal/\s'=⟨(msT T 0 s.t).set d av,msB F V 0 s.b⟩) [⟨some d,op,ty,pos,aft,g⟩] ⟨msT T 0 s.t,msB F V 0 s.b⟩)
 (hk:DW P ops all K (⟨T,some d,F,false⟩ :: acc) l ⟨s.t.set d av,s.b⟩) (hy:nyF F 0 s.b=true:=by exact rfl):DW P ops all K acc (⟨some d,op,ty,pos,aft,g⟩ :: l) s:=
 ⟨⟨⟨T,some d,F,false⟩,av,s.b⟩,rfl,rfl,fun _=>rfl,fun _ _=>rfl,frame (fun X V=>by
  intro a w hs;refine wpL_turn (fun e a w ⟨s',h,_⟩=>h.1) ?_ (h X V a w hs);rintro a w - ⟨s',⟨h1,rfl⟩,h2⟩;exact ⟨_,⟨h1,by simp [msT_len],gtv_set rfl,Mg.same⟩,h2⟩) hy hy,hk⟩
theorem DW.rdN (m:Nat) (hT:opTs ops ⟨none,op,ty,pos,aft,g⟩=T) (hF:ftF m s op=F) (h:∀ X V,AP P X ops (fun e s'=>e=.normal/\s'=⟨msT T 0 s.t,msB F V 0 s.b⟩) [⟨none,op,ty,pos,aft,g⟩] ⟨msT T 0 s.t,msB F V 0 s.b⟩)
 (hk:DW P ops all K (⟨T,none,F,false⟩ :: acc) l s) (hy:nyF F 0 s.b=true:=by exact rfl):DW P ops all K acc (⟨none,op,ty,pos,aft,g⟩ :: l) s:=
 ⟨⟨⟨T,none,F,false⟩,.de,s.b⟩,rfl,rfl,fun _=>rfl,fun _ _=>rfl,frame (fun X V=>by
  intro a w hs;refine wpL_turn (fun e a w ⟨s',h,_⟩=>h.1) ?_ (h X V a w hs);rintro a w - ⟨s',⟨h1,rfl⟩,h2⟩;exact ⟨_,⟨h1,by simp [msT_len],trivial,Mg.same⟩,h2⟩) hy hy,hk⟩
theorem mg_out (h:∃ V:Nat->Nat,∃ b1,Mg F V 0 s.b b1 b2):b2.length=s.b.length/\∀ j,inN j F=false->b2[j]? = s.b[j]?:=by
 obtain ⟨V,b1,h⟩:=h;refine ⟨h.len.2,fun j hj=>?_⟩;have:=(h.at_ j).2;rw [Nat.zero_add] at this;exact (this hj).1
theorem DW.st (m:Nat) (hT:opTs ops ⟨some d,op,ty,pos,aft,g⟩=T) (hF:ftF m s op=F) (h:∀ X V,AP P X ops (fun e s'=>e=.normal/\s'.t=(msT T 0 s.t).set d av/\Mg F V 0 s.b s'.b b2) [⟨some d,op,ty,pos,aft,g⟩] ⟨msT T 0 s.t,msB F V 0 s.b⟩)
 (hb:(∃ V:Nat->Nat,∃ b1,Mg F V 0 s.b b1 b2)) (hk:DW P ops all K (⟨T,some d,F,true⟩ :: acc) l ⟨s.t.set d av,b2⟩) (hy:nyF F 0 s.b=true:=by exact rfl) (hy2:nyF F 0 b2=true:=by exact rfl):DW P ops all K acc (⟨some d,op,ty,pos,aft,g⟩ :: l) s:=
 ⟨⟨⟨T,some d,F,true⟩,av,b2⟩,rfl,(mg_out hb).1,fun h=>(by cases h),(mg_out hb).2,frame (fun X V=>by
  intro a w hs;refine wpL_turn (fun e a w ⟨s',h,_⟩=>h.1) ?_ (h X V a w hs);rintro a w - ⟨s',⟨h1,h2,h3⟩,h4⟩;exact ⟨_,⟨h1,by rw [h2];simp [msT_len],gtv_set h2,h3⟩,h4⟩) hy hy2,hk⟩
theorem DW.stN (m:Nat) (hT:opTs ops ⟨none,op,ty,pos,aft,g⟩=T) (hF:ftF m s op=F) (h:∀ X V,AP P X ops (fun e s'=>e=.normal/\s'.t=msT T 0 s.t/\Mg F V 0 s.b s'.b b2) [⟨none,op,ty,pos,aft,g⟩] ⟨msT T 0 s.t,msB F V 0 s.b⟩)
 (hb:(∃ V:Nat->Nat,∃ b1,Mg F V 0 s.b b1 b2)) (hk:DW P ops all K (⟨T,none,F,true⟩ :: acc) l ⟨s.t,b2⟩) (hy:nyF F 0 s.b=true:=by exact rfl) (hy2:nyF F 0 b2=true:=by exact rfl):DW P ops all K acc (⟨none,op,ty,pos,aft,g⟩ :: l) s:=
 ⟨⟨⟨T,none,F,true⟩,.de,b2⟩,rfl,(mg_out hb).1,fun h=>(by cases h),(mg_out hb).2,frame (fun X V=>by
  intro a w hs;refine wpL_turn (fun e a w ⟨s',h,_⟩=>h.1) ?_ (h X V a w hs);rintro a w - ⟨s',⟨h1,h2,h3⟩,h4⟩;exact ⟨_,⟨h1,by rw [h2];simp [msT_len],trivial,h3⟩,h4⟩) hy hy2,hk⟩
theorem DW.sx (m:Nat) (hT:opTs ops ⟨some d,op,ty,pos,aft,g⟩=T) (hF:ftF m s op=F) (h:∀ X V,AP P X ops (fun e s'=>e=.normal/\s'.t=(msT T 0 s.t).set d av/\Mg F V 0 s.b s'.b b2) [⟨some d,op,ty,pos,aft,g⟩] ⟨msT T 0 s.t,msB F V 0 s.b⟩)
 (hb:(∃ V:Nat->Nat,∃ b1,Mg F V 0 s.b b1 b2)) (hy:nyF F 0 s.b=true) (hy2:nyF F 0 b2=true) (hk:DW P ops all K (⟨T,some d,F,true⟩ :: acc) l ⟨s.t.set d av,b2⟩):DW P ops all K acc (⟨some d,op,ty,pos,aft,g⟩ :: l) s:=DW.st m hT hF h hb hk hy hy2
end
theorem DW.known {P:Program} {ops:Array Oper} {s:AS} {all:List Oper} {K:AS->Prop} {acc:List Fp} {l:List Oper} {o:Oper} {r:Bool} (_h:gdS ops s o.guard=some r) (k:DW P ops all K acc (o :: l) s):DW P ops all K acc (o :: l) s:=k
def ftv:=PLift.up (A2 @opTs.eq_1 (A2 @opT.eq_1 (A2 @opT.eq_2 (A2 @opT.eq_3 (A2 @opT.eq_4 (A2 @opT.eq_5 (A2 @opT.eq_6 (A2 @opT.eq_7 (A2 @opT.eq_8 (A2 @opT.eq_9 (A2 @opT.eq_10 (A2 @opT.eq_11 (A2 @opT.eq_12 (A2 @opT.eq_13 (A2 @opT.eq_14 (A2 @opT.eq_15 (A2 @opT.eq_16 (A2 @opT.eq_17 (A2 @opT.eq_18 (A2 @opT.eq_19 (A2 @opT.eq_20 (A2 @opT.eq_21 (A2 @opT.eq_22 (A2 @opT.eq_23 (A2 @opT.eq_24 (A2 @opT.eq_25 (A2 @opT.eq_26 (A2 @opT.eq_27 (A2 @opT.eq_28 (A2 @opT.eq_29 (A2 @xT.eq_1 (A2 @xT.eq_2 (A2 @xsT.eq_1 (A2 @xsT.eq_2 (A2 @psT.eq_1 (A2 @psT.eq_2 (A2 @oT.eq_1 (A2 @oT.eq_2 (A2 @cT.eq_1 (A2 @cT.eq_2 (A2 @gT.eq_1 (A2 @gT.eq_2 (A2 @bxs.eq_1 (A2 @bxs.eq_2 (A2 @bxs.eq_3 (A2 @bxs.eq_4 (A2 @bxs.eq_5 (A2 @bxs.eq_6 (A2 @bxs.eq_7 (A2 @bxs.eq_8 (A2 @bxs.eq_9 (A2 @bxs.eq_10 (A2 @bxs.eq_11 (A2 @bxl.eq_1 (A2 @bxl.eq_2 (A2 @hdx.eq_1 (A2 @hdx.eq_2 (A2 @hdx.eq_3 (A2 @hdx.eq_4 (A2 @hdl.eq_1 (A2 @hdl.eq_2 (A2 @dpx.eq_1 (A2 @dpx.eq_2 (A2 @dpx.eq_3 (A2 @dpx.eq_4 (A2 @dpx.eq_5 (A2 @dpx.eq_6 (A2 @dpx.eq_7 (A2 @dpl.eq_1 (A2 @dpl.eq_2 (A2 @cdl.eq_1 (A2 @kids.eq_1 (A2 @kids.eq_2 (A2 @clbN.eq_1 (A2 @clbN.eq_2 (A2 @clbN.eq_3 (A2 @clb.eq_1 (A2 @ftF.eq_1 (A2 @ftF.eq_2 (A2 @ftF.eq_3 (A2 @ftF.eq_4 (A2 @ftF.eq_5 (A2 @ftF.eq_6 (A2 @ftF.eq_7 (A2 @ftF.eq_8 (A2 @ftF.eq_9 (A2 @ftF.eq_10 (A2 @ftF.eq_11 (A2 @ftF.eq_12 (A2 @ftF.eq_13 (A2 @ftF.eq_14 (A2 @ftF.eq_15 (A2 @ftF.eq_16 (A2 @ddl.eq_1 (A2 @ddl.eq_2 (A2 @ddl.eq_3 (A2 @ddl.eq_4 (A2 @axs.eq_1 (A2 @axs.eq_2 (A2 @hxs.eq_1 (A2 @hxs.eq_2 (A2 @pxs.eq_1 (A2 @pxs.eq_2 (A2 @inN.eq_1 (A2 @inN.eq_2 (A2 @msT.eq_1 (A2 @msT.eq_2 (A2 @msB.eq_1 (A2 @msB.eq_2 (A2 @List.nil_append.{0} (A2 @List.cons_append.{0} @List.append_nil.{0})))))))))))))))))))))))))))))))))))))))))))))))))))))))))))))))))))))))))))))))))))))))))))))))))))))))))))))))
theorem ft:type_of% ftv.down:=ftv.down
inductive Nl:List AV->List AV->Prop
 | nil:Nl [] []
 | same {a l l'}:Nl l l'->Nl (a :: l) (a :: l')
 | nl {k l l'}:Nl l l'->Nl (.sc (.slice none 0 0) :: l) (.sl none k [] :: l')
inductive NlE:List (List AV)->List (List AV)->Prop
 | nil:NlE [] []
 | cons {r r' s s'}:Nl r r'->NlE s s'->NlE (r :: s) (r' :: s')
section
variable {P:Program} {X:Cx} {φ φ':Fi} {κ κ':Ka} {f:Nat->Ct} {L L':Ct} {s s':AS} {a:Act} {w w':World} {R:Nat->Prop}
theorem NlE.len:∀ {l l':List (List AV)},NlE l l'->l'.length=l.length
 | _,_,.nil=>rfl
 | _,_,.cons _ h=>by simp [NlE.len h]
theorem RC.nls:∀ {l l':List AV},Nl l l'->∀ {us:List Value} {S:Ct},RC w φ κ R l us S->RC w φ κ R l' us S
 | _,_,.nil,_,_,h=>h
 | _,_,.same hw,_,_,h=>by
  cases h with
  | cons h1 h2 h3=>exact .cons h1 (RC.nls hw h2) h3
 | _,_,.nl hw,_,_,h=>by
  cases h with
  | cons h1 h2 h3=>cases h1 with
   | sc h1=>exact .cons (RV.nil_sl (.sc h1)) (RC.nls hw h2) h3
theorem Nl.leaf:∀ {l l':List AV},Nl l l'->(∀ x∈l,x.leaf=true)->∀ x∈l',x.leaf=true
 | _,_,.nil,h=>h
 | _,_,.same hw,h=>fun x hx=>by
  rcases List.mem_cons.1 hx with rfl|hx
  ·exact h _ (by simp)
  ·exact hw.leaf (fun y hy=>h y (by simp [hy])) x hx
 | _,_,.nl hw,h=>fun x hx=>by
  rcases List.mem_cons.1 hx with rfl|hx
  ·rfl
  ·exact hw.leaf (fun y hy=>h y (by simp [hy])) x hx
theorem RE.nls:∀ {r r':List (List AV)},NlE r r'->∀ {k:Nat} {us:List Value} {S:Ct},RE w φ κ R k r us S->RE w φ κ R k r' us S
 | _,_,.nil,_,_,_,h=>h
 | _,_,.cons hw hr,_,_,_,h=>by
  cases h with
  | cons h1 h2 h3 h4 h5=>exact .cons (RC.nls hw h1) h2 ⟨h3.1,hw.leaf h3.2⟩ (RE.nls hr h4) h5
end
