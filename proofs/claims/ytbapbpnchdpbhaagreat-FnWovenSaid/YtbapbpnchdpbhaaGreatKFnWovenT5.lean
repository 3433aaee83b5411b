/- Memory told as trees, part 6. -/
import Derived.Test.YtbapbpnchdpbhaaGreatKFnWovenT2
import Derived.ChangeArms
import Derived.DataReads
import Derived.Handed
import Derived.SizedLaws
set_option linter.unusedVariables false
set_option linter.unusedSimpArgs false
set_option maxHeartbeats 8000000
set_option maxRecDepth 100000
namespace Go.TV
def allD (w:World):CS:=fun b _=>b < w.heap.size
def Opens {H:Type} (enc:TypeId×Value→H) (P:Program) (W:World) (t:TypeId) {α:Type} (cells:α→List V) (Sm:α→Prop):Prop:=
 ∀ (fuel:Nat) (cs:List Value) (d:DataW H) (ps:List MemPlace),DataW.trod enc P W 0 (fun _=>true) true fuel t cs=some (d,ps) →
  ∃ x,cs.length=(cells x).length∧RepRow W (allD W) (fun k=>cs[k]?) (cells x) 0 emp∧((∀ n ∈ d.weights P t,n≤reachBytes)→Sm x)
theorem row_one {w:World} {D:CS} {v:V} {u:Value} (h:Rep w D v u emp):RepRow w D (fun k=>[u][k]?) [v] 0 emp:=
 ⟨u,emp,emp,rfl,h,rfl,qB _,cup_emp_emp.symm⟩
section
variable {H:Type} {enc:TypeId×Value→H} {P:Program} {W:World} {t:TypeId}
theorem opens_int {k:IntKind} (ht:P.underlying t=some (.int k)):Opens enc P W t (rK k) (fun x=>(Lit.int k x).wf=true):=fun fuel cs d ps h=>by
 obtain ⟨n,rfl,_,hw⟩:=DataW.trod_int ht h
 exact ⟨n,rfl,row_one ⟨rfl,rfl,rfl⟩,fun _=>hw⟩
theorem list_of {α:Type} {p:Nat→α→Prop}:∀ n,(∀ i,i < n→∃ x,p i x)→∃ l:List α,l.length=n∧∀ i x,l[i]? = some x→p i x
 | 0,_=>⟨[],rfl,fun i x h=>by simp at h⟩
 | n+1,h=>by
  obtain ⟨l,h1,h2⟩:=list_of n (fun i hi=>h i (by omega))
  obtain ⟨x,hx⟩:=h n (by omega)
  refine ⟨l++[x],by simp [h1],fun i y hy=>?_⟩
  rcases Nat.lt_trichotomy i n with q | q | q
  ·rw [List.getElem?_append_left (by omega)] at hy
   exact h2 i y hy
  ·subst q
   rw [List.getElem?_append_right (by omega),h1,Nat.sub_self] at hy
   injection hy with hy
   subst hy
   exact hx
  ·rw [List.getElem?_eq_none (by simp; omega)] at hy
   cases hy
theorem repRows_of {w:World} {D:CS} {n b o:Nat}:∀ (rows:List (List V)) (k:Nat),(∀ i r,rows[i]? = some r→r.length=n∧RepRow w D (rdm w b (o+(k+i) * n)) r 0 emp)→RepRows w D n b o rows k emp
 | [],_,_=>rfl
 | r :: rs,k,h=>by
  obtain ⟨h1,h2⟩:=h 0 r rfl
  exact ⟨emp,emp,h1,by simpa using h2,repRows_of rs (k+1) (fun i r' hr=>by
   have:=h (i+1) r' (by simpa using hr)
   rwa [show k+(i+1)=k+1+i by omega] at this),qB _,cup_emp_emp.symm⟩
theorem qN2 {e:TypeId}:∀ {ds:List (DataW H)} {d:DataW H},d ∈ ds→∀ n ∈ d.weights P e,n ∈ DataW.weightsAll P e ds
 | d' :: ds,d,h,n,hn=>by
  simp only [DataW.weightsAll,List.mem_append]
  rcases List.mem_cons.1 h with rfl | h
  ·exact .inl hn
  ·exact .inr (qN2 h n hn)
theorem opens_slice {e:TypeId} {n B:Nat} {α:Type} {r:α→List V} {Sm:α→Prop} (ht:P.underlying t=some (.slice e)) (hn:P.cellsOf e=n) (hB:P.bytesOf e=B) (h0:0 < n) (hr:∀ x,(r x).length=n) (he:Opens enc P W e r Sm) :
  Opens enc P W t (rL false n r) (fun l=>l.length * B≤reachBytes∧∀ x ∈ l,Sm x):=fun fuel cs d ps h=>by
 rcases DataW.trod_slice ht h with ⟨rfl,hx⟩ | ⟨a,len,cap,elems,rest,m,rfl,rfl,hx,_,hl,hm,hlen,hel,hsp,_⟩
 ·exact ⟨[],rfl,row_one (.inl ⟨rfl,.inl rfl,rfl⟩),fun _=>⟨by simp,fun x hx=>by cases hx⟩⟩
 obtain ⟨hrest,hsp⟩:=hsp rfl
 injection hx with hx _
 -- the elements,one by one
 have each:∀ i,i < len→∃ x:α,(∀ j,j < n→(∃ v,W.cell? ((a.add (i * n)).add j)=some v) )∧RepRow W (allD W) (fun k=>if k < n then W.cell? ((a.add (i * n)).add k) else none) (r x) 0 emp∧∃ y,elems[i]? = some y∧((∀ q ∈ y.1.weights P e,q≤reachBytes)→Sm x):=fun i hi=>by
  have h1:=hel i hi
  have hi':i < elems.length:=by omega
  rw [List.getElem?_eq_getElem hi',Option.bind_eq_some_iff] at h1
  obtain ⟨c1,h2,h3⟩:=h1
  obtain ⟨x,h4,h5,h6⟩:=he m c1 _ _ h3
  obtain ⟨_,h7,h8⟩:=World.cells?_some h2
  rw [hn] at h7 h8
  refine ⟨x,fun j hj=>⟨c1[j]'(by omega),by rw [h8 j hj,List.getElem?_eq_getElem]⟩,?_,elems[i],List.getElem?_eq_getElem hi',h6⟩
  refine RepRow.frame (zC _) (zI W _) (r x) _ _ 0 emp h5 (zI W _) (fun j _ hj=>?_)
  rw [hr x] at hj
  rw [if_pos (by omega),h8 j (by omega)]
 obtain ⟨l,hll,hl2⟩:=list_of len each
 have hsm:(∀ q ∈ d.weights P t,q≤reachBytes)→l.length * B≤reachBytes∧∀ x ∈ l,Sm x:=fun hq=>by
  rw [hx] at hq
  simp only [DataW.weights,ht,List.length_map,hB] at hq
  have q1:=hq _ (List.mem_cons_self ..)
  refine ⟨Nat.le_trans (Nat.mul_le_mul_right _ (by omega)) q1,fun x hx'=>?_⟩
  obtain ⟨i,hi,rfl⟩:=List.getElem_of_mem hx'
  obtain ⟨_,_,y,hy,h6⟩:=hl2 i _ (List.getElem?_eq_getElem hi)
  refine h6 fun q hq'=>hq q (List.mem_cons_of_mem _ (List.mem_append_left _ (qN2 (List.mem_map.2 ⟨y,List.mem_of_getElem? hy,rfl⟩) q hq')))
 by_cases hc0:cap=0
 ·have hl0:len=0:=by omega
  have:l=[]:=List.length_eq_zero_iff.1 (by omega)
  subst this
  refine ⟨[],rfl,row_one (.inl ⟨rfl,.inr ⟨rfl,a,?_⟩,rfl⟩),hsm⟩
  rw [hl0,hc0]
 -- it lies somewhere
 have hcell:∃ v,W.cell? a=some v:=by
  by_cases hl0:0 < len
  ·obtain ⟨x,h1,_⟩:=each 0 hl0
   have:=h1 0 h0
   simpa [Addr.add] using this
  ·have h1:=hsp 0 (by omega)
   have hi':0 < rest.length:=by omega
   rw [List.getElem?_eq_getElem hi',Option.bind_eq_some_iff] at h1
   obtain ⟨c1,h2,_⟩:=h1
   obtain ⟨_,h7,h8⟩:=World.cells?_some h2
   have:=h8 0 (by omega)
   have hc1:0 < c1.length:=by omega
   rw [List.getElem?_eq_getElem hc1,show len+0=0 by omega,Nat.zero_mul] at this
   simp only [Addr.add,if_true] at this
   exact ⟨_,this⟩
 obtain ⟨v,hv⟩:=hcell
 obtain ⟨b,o,spot⟩:=a
 have hs:spot=none:=by
  unfold World.cell? at hv
  split at hv
  ·split at hv
   ·cases hv
   ·rename_i q
    simpa using q
  ·cases hv
 subst hs
 have hb:b < W.heap.size:=qP1 hv
 refine ⟨l,rfl,row_one (.inr ⟨b,o,cap,emp,?_,?_,?_,rfl,rfl,?_⟩),hsm⟩
 ·rw [List.length_map,hll]
  rfl
 ·rw [List.length_map,hll]
  exact hl
 ·refine repRows_of _ 0 fun i row hrow=>?_
  rw [List.getElem?_map,Option.map_eq_some_iff] at hrow
  obtain ⟨x,hx',rfl⟩:=hrow
  obtain ⟨_,h5,_⟩:=hl2 i x hx'
  refine ⟨hr x,RepRow.frame (zC _) (zI W _) (r x) _ _ 0 emp h5 (zI W _) (fun j _ hj=>?_)⟩
  rw [hr x] at hj
  rw [if_pos (by omega)]
  show W.cell? (ad b (o+(0+i) * n+j))=W.cell? (((ad b o).add (i * n)).add j)
  rw [zA0,zA0,Nat.zero_add]
 ·rintro x y ⟨q1,_,_⟩
  show x < W.heap.size
  omega
end
theorem fieldAt {H:Type} {enc:TypeId×Value→H} {P:Program} {W:World} {fs:Array Field} {xs:List (DataW H×List MemPlace)} {n:Nat} {cs:List Value} {α:Type} {r:α→List V} {Sm:α→Prop}
  (hf:∀ (i:Nat) (f:Field),fs[i]? = some f→DataW.trod enc P W 0 (fun _=>true) true n f.type ((cs.drop f.offset).take (P.cellsOf f.type))=xs[i]?) (hxl:xs.length=fs.size) (i:Nat) {f:Field} (hi:fs[i]? = some f) (ho:Opens enc P W f.type r Sm) :
  ∃ (y:DataW H×List MemPlace) (x:α),xs[i]? = some y∧(((cs.drop f.offset).take (P.cellsOf f.type)).length=(r x).length∧RepRow W (allD W) (fun k=>((cs.drop f.offset).take (P.cellsOf f.type))[k]?) (r x) 0 emp)∧((∀ q ∈ y.1.weights P f.type,q≤reachBytes)→Sm x):=by
 have hlt:i < xs.length:=by
  rw [hxl]
  exact (Array.getElem?_eq_some_iff.1 hi).1
 have h:=hf i f hi
 rw [List.getElem?_eq_getElem hlt] at h
 obtain ⟨x,h1,h2,h3⟩:=ho n _ _ _ h
 exact ⟨xs[i],x,List.getElem?_eq_getElem hlt,⟨h1,h2⟩,h3⟩
end Go.TV
namespace Go.TV
open Go.RowKit
def noAgg:TypeDesc→Bool
 | .struct _ | .array _ _=>false
 | _=>true
theorem okWide_one {P:Program} {W:World} {r:Reach} {b:Nat} {t:TypeId} {u:TypeDesc} {v:Value} (ht:P.underlying t=some u) (hu:noAgg u=true) (h:Value.okWide P W r b t v):v.cells = #[v]:=by
 cases v <;> try rfl
 rename_i cs
 exfalso
 unfold Value.okWide at h
 rw [ht] at h
 cases u <;> simp [noAgg] at hu <;> simp [Cell.okWide,Cell.ok,ht] at h
theorem law_below {X:Cfg} {f:Nat} {as:List (Ag V)} (hf:Fn X f as [.one (.sc (.bool true))] []) {W:World} {us fl:List Value} (ha:uB as us fl) (hr:RepRow W (allD W) (fun k=>fl[k]?) (zH as) 0 emp) (hg:∀ b φ,X.G b=some φ→b < W.heap.size∧∃ x,W.heap[b]? = some x∧φ x:=by exact fun _ _ q=>Option.noConfusion q) :
  Calls X.P f us.toArray W fun e W'=>e=.returned (.bool true)∧Below W.heap.size W W':=by
 refine (hf.2 W (allD W) emp us fl ha hr (qB _) (fun b o q=>q) (fun b φ q=>⟨(hg b φ q).1,fun _=>(hg b φ q).1,fun _ k=>k,(hg b φ q).2⟩)).mono fun e W' hq=>?_
 obtain ⟨u,fr,D',S1,S2,rfl,q1,q2,q3,q4,q5,q6,_⟩:=hq
 obtain ⟨u1,us',fl',e1,e2,e3⟩:=q1
 injection e1 with e1 _
 subst e1
 obtain ⟨u2,T3,T4,g1,g2,_⟩:=q2
 rw [e2] at g1
 injection g1 with g1
 subst g1
 rw [g2.1]
 exact ⟨rfl,q6.os,q6.tape,q6.output,q6.size,fun k hk=>q6.blk k hk (fun _ q=>q)⟩
theorem args_one {as:List (Ag V)} {v:V} {u:Value} {us fl:List Value} {W:World} (h1:RepRow W (allD W) (fun k=>[u][k]?) [v] 0 emp) (ha:uB as us fl) (hr:RepRow W (allD W) (fun k=>fl[k]?) (zH as) 0 emp) :
  uB (.one v :: as) (u :: us) (u :: fl)∧RepRow W (allD W) (fun k=>(u :: fl)[k]?) (zH (.one v :: as)) 0 emp:=by
 obtain ⟨u',S1,S2,e1,e2,e3,_,e4⟩:=h1
 injection e1 with e1
 subst e1
 have e3:S2=emp:=e3
 subst e3
 rw [qN] at e4
 subst e4
 refine ⟨⟨u,us,fl,rfl,rfl,ha⟩,u,emp,emp,rfl,e2,?_,qB _,cup_emp_emp.symm⟩
 exact RepRow.shift _ _ _ 0 1 emp hr (fun q _=>by
  show (u :: fl)[1+q]? = fl[0+q]?
  rw [Nat.add_comm 1 q,Nat.zero_add,List.getElem?_cons_succ])
theorem args_nil {W:World}:uB ([]:List (Ag V)) [] []∧RepRow W (allD W) (fun k=>([]:List Value)[k]?) (zH []) 0 emp:=⟨⟨rfl,rfl⟩,rfl⟩
end Go.TV
