/- Memory told as trees, part 6. -/
import Derived.Test.YtbapbpnchdpbhaaGreatKFnExactReadWeaveT2
import Derived.ChangeArms
import Derived.DataReads
import Derived.Handed
import Derived.SizedLaws
set_option linter.unusedVariables false
set_option linter.unusedSimpArgs false
set_option maxHeartbeats 8000000
set_option maxRecDepth 100000
namespace Go.TV
def allD (w:World):CS:=fun b _=>b < w.heap.size
def Opens {H:Type} (enc:TypeId×Value→H) (P:Program) (W:World) (t:TypeId) {α:Type} (cells:α→List V) (Sm:α→Prop):Prop:=
 ∀ (fuel:Nat) (cs:List Value) (d:DataW H) (ps:List MemPlace),DataW.trod enc P W 0 (fun _=>true) true fuel t cs=some (d,ps) →
  ∃ x,cs.length=(cells x).length∧RepRow W (allD W) (fun k=>cs[k]?) (cells x) 0 emp∧((∀ n ∈ d.weights P t,n≤reachBytes)→Sm x)
theorem row_one {w:World} {D:CS} {v:V} {u:Value} (h:Rep w D v u emp):RepRow w D (fun k=>[u][k]?) [v] 0 emp:=
 ⟨u,emp,emp,rfl,h,rfl,zW _,cup_emp_emp.symm⟩
section
variable {H:Type} {enc:TypeId×Value→H} {P:Program} {W:World} {t:TypeId}
theorem opens_string (ht:P.underlying t=some .string):Opens enc P W t rS (fun s=>s.size≤reachBytes):=fun fuel cs d ps h=>by
 obtain ⟨s,rfl,hx,_⟩:=DataW.trod_string ht h
 injection hx with hx _
 subst hx
 refine ⟨s,rfl,row_one ⟨rfl,rfl,rfl⟩,fun hq=>?_⟩
 have:=hq s.data.toList.length (by simp [DataW.weights])
 simpa using this
end
theorem fieldAt {H:Type} {enc:TypeId×Value→H} {P:Program} {W:World} {fs:Array Field} {xs:List (DataW H×List MemPlace)} {n:Nat} {cs:List Value} {α:Type} {r:α→List V} {Sm:α→Prop}
  (hf:∀ (i:Nat) (f:Field),fs[i]? = some f→DataW.trod enc P W 0 (fun _=>true) true n f.type ((cs.drop f.offset).take (P.cellsOf f.type))=xs[i]?) (hxl:xs.length=fs.size) (i:Nat) {f:Field} (hi:fs[i]? = some f) (ho:Opens enc P W f.type r Sm) :
  ∃ (y:DataW H×List MemPlace) (x:α),xs[i]? = some y∧(((cs.drop f.offset).take (P.cellsOf f.type)).length=(r x).length∧RepRow W (allD W) (fun k=>((cs.drop f.offset).take (P.cellsOf f.type))[k]?) (r x) 0 emp)∧((∀ q ∈ y.1.weights P f.type,q≤reachBytes)→Sm x):=by
 have hlt:i < xs.length:=by
  rw [hxl]
  exact (Array.getElem?_eq_some_iff.1 hi).1
 have h:=hf i f hi
 rw [List.getElem?_eq_getElem hlt] at h
 obtain ⟨x,h1,h2,h3⟩:=ho n _ _ _ h
 exact ⟨xs[i],x,List.getElem?_eq_getElem hlt,⟨h1,h2⟩,h3⟩
end Go.TV
namespace Go.TV
open Go.RowKit
def noAgg:TypeDesc→Bool
 | .struct _ | .array _ _=>false
 | _=>true
theorem okWide_one {P:Program} {W:World} {r:Reach} {b:Nat} {t:TypeId} {u:TypeDesc} {v:Value} (ht:P.underlying t=some u) (hu:noAgg u=true) (h:Value.okWide P W r b t v):v.cells = #[v]:=by
 cases v <;> try rfl
 rename_i cs
 exfalso
 unfold Value.okWide at h
 rw [ht] at h
 cases u <;> simp [noAgg] at hu <;> simp [Cell.okWide,Cell.ok,ht] at h
theorem law_below {X:Cfg} {f:Nat} {as:List (Ag V)} (hf:Fn X f as [.one (.sc (.bool true))] []) {W:World} {us fl:List Value} (ha:yW as us fl) (hr:RepRow W (allD W) (fun k=>fl[k]?) (zG as) 0 emp) (hg:∀ b φ,X.G b=some φ→b < W.heap.size∧∃ x,W.heap[b]? = some x∧φ x:=by exact fun _ _ q=>Option.noConfusion q) :
  Calls X.P f us.toArray W fun e W'=>e=.returned (.bool true)∧Below W.heap.size W W':=by
 refine (hf.2 W (allD W) emp us fl ha hr (zW _) (fun b o q=>q) (fun b φ q=>⟨(hg b φ q).1,fun _=>(hg b φ q).1,fun _ k=>k,(hg b φ q).2⟩)).mono fun e W' hq=>?_
 obtain ⟨u,fr,D',S1,S2,rfl,q1,q2,q3,q4,q5,q6,_⟩:=hq
 obtain ⟨u1,us',fl',e1,e2,e3⟩:=q1
 injection e1 with e1 _
 subst e1
 obtain ⟨u2,T3,T4,g1,g2,_⟩:=q2
 rw [e2] at g1
 injection g1 with g1
 subst g1
 rw [g2.1]
 exact ⟨rfl,q6.os,q6.tape,q6.output,q6.size,fun k hk=>q6.blk k hk (fun _ q=>q)⟩
theorem args_one {as:List (Ag V)} {v:V} {u:Value} {us fl:List Value} {W:World} (h1:RepRow W (allD W) (fun k=>[u][k]?) [v] 0 emp) (ha:yW as us fl) (hr:RepRow W (allD W) (fun k=>fl[k]?) (zG as) 0 emp) :
  yW (.one v :: as) (u :: us) (u :: fl)∧RepRow W (allD W) (fun k=>(u :: fl)[k]?) (zG (.one v :: as)) 0 emp:=by
 obtain ⟨u',S1,S2,e1,e2,e3,_,e4⟩:=h1
 injection e1 with e1
 subst e1
 have e3:S2=emp:=e3
 subst e3
 rw [zV] at e4
 subst e4
 refine ⟨⟨u,us,fl,rfl,rfl,ha⟩,u,emp,emp,rfl,e2,?_,zW _,cup_emp_emp.symm⟩
 exact RepRow.shift _ _ _ 0 1 emp hr (fun q _=>by
  show (u :: fl)[1+q]? = fl[0+q]?
  rw [Nat.add_comm 1 q,Nat.zero_add,List.getElem?_cons_succ])
theorem args_nil {W:World}:yW ([]:List (Ag V)) [] []∧RepRow W (allD W) (fun k=>([]:List Value)[k]?) (zG []) 0 emp:=⟨⟨rfl,rfl⟩,rfl⟩
end Go.TV
