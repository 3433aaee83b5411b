/- Memory told as trees, part 5. -/
import Derived.Test.YthfhiepgdeghpaaKFnLivesT4
import Derived.WalkKit
import Derived.ProofKit
import Derived.Lib.UnsafeStr
import Derived.Lib.Walk
import Derived.Shelf.RegionOpenPlain
import Derived.Lib.IndexMore
import Derived.Lib.LaidTab
import Derived.Lib.ItoaNum
import Derived.Sort.Grow
import Derived.Deep.Draws
set_option linter.unusedVariables false
set_option linter.unusedSimpArgs false
set_option maxHeartbeats 8000000
set_option maxRecDepth 100000
namespace Go.TV
section
variable {gG:GG} {c:Ctx gG} {e e':Env} {a:Act} {w:World} {D:CS} {hs:Nat→Value} {S:CS} {X:Cfg} {o:Oper}
end
theorem mklR_f {α:Type} (r:α→List V) (c:List V) {n m:Int} {z:α} {l:List α} (hz:r z=c) (h:mkl n m z=some l):((0≤n)=True)∧((n≤m)=True)∧((m≤1099511627776)=True)∧List.replicate n.toNat c=List.map r l:=by
 obtain ⟨h1,h2,h3,h4⟩:=mkl_f h
 exact ⟨h1,h2,h3,by rw [← h4,← hz,rep_rows]⟩
end Go.TV
namespace Go.TV
def Cfg.ofG (P:Program) (h:P.follows .mixedOrders=true) (l:List (Nat×(Obj→Prop))):Cfg:={Cfg.of P h with G:=fun b=>(l.find? fun x=>x.1 == b).map fun x=>x.2}
theorem Cfg.ofG_mem {l:List (Nat×(Obj→Prop))} {b:Nat} {φ:Obj→Prop} (h:((l.find? fun x=>x.1 == b).map fun x=>x.2)=some φ):(b,φ) ∈ l:=by
 cases q:l.find? fun x=>x.1 == b with
 | none=>rw [q] at h; cases h
 | some x =>
  rw [q] at h
  injection h with h
  have h1:=List.mem_of_find?_eq_some q
  have h2:=List.find?_some q
  have h2:x.1=b:=by simpa using h2
  subst h2 h
  exact h1
def isNum (x:Obj):Prop:=∃ cs e k m,x=.cells cs e k∧cs[0]? = some (.int .i64 m)
theorem isNum_cell {w:World} {b:Nat} {x:Obj} (h:w.heap[b]? = some x) (hx:isNum x):∃ m,w.cell? (ad b 0)=some (.int .i64 m):=by
 obtain ⟨cs,e,k,m,rfl,h1⟩:=hx
 refine ⟨m,?_⟩
 unfold World.cell? ad
 simp only [h]
 exact h1
theorem cell_isNum {w:World} {b:Nat} {m:Int} (h:w.cell? (ad b 0)=some (.int .i64 m)):∃ x,w.heap[b]? = some x∧isNum x:=by
 unfold World.cell? ad at h
 simp only at h
 split at h
 ·rename_i cs e k hq
  exact ⟨_,hq,cs,e,k,m,rfl,by simpa using h⟩
 ·cases h
theorem Fn_pureB {X : Cfg} {f : Nat} {s x : ByteArray} {b : Bool} (hex : ∃ fn, X.P.funcs[f]? = some fn ∧ fn.body.isSome = true ∧ (fn.name == "runtime.NumGoroutine") = false)
  (hc:∀ w:World,(∀ g φ,X.G g=some φ→∃ x,w.heap[g]? = some x∧φ x)→Calls X.P f #[.string s,.string x] w fun e w'=>e=.returned (.bool b)∧w'=w) :
  Fn X f [.one (.sc (.string s)),.one (.sc (.string x))] [.one (.sc (.bool b))] []:=by
 refine ⟨hex,fun w D S us fl ha hr hj hD hg=>?_⟩
 obtain ⟨u0,us1,fl1,rfl,rfl,u1,us2,fl2,rfl,rfl,rfl,rfl⟩:=ha
 obtain ⟨y0,S0,S1,hy0,hx0,⟨y1,S2,S3,hy1,hx1,hS3,hd1,rfl⟩,hd0,rfl⟩:=hr
 simp only [List.getElem?_cons_zero,Option.some.injEq] at hy0
 simp only [Nat.zero_add,List.getElem?_cons_succ,List.getElem?_cons_zero,Option.some.injEq] at hy1
 subst hy0 hy1
 obtain ⟨rfl,_,rfl⟩:=hx0
 obtain ⟨rfl,_,rfl⟩:=hx1
 obtain rfl:S3=emp:=hS3
 refine (hc w (fun g φ q=>(hg g φ q).2.2.2)).mono ?_
 rintro en w' ⟨rfl,rfl⟩
 refine ⟨_,[.bool b],D,emp,emp,rfl,⟨_,_,_,rfl,rfl,rfl,rfl⟩,⟨_,emp,emp,rfl,⟨rfl,rfl,rfl⟩,rfl,emp_dj _,(cup_emp emp).symm⟩,rfl,emp_dj _,?_,Frm.refl _ _,?_,zN D,fun _ _ h=>.inl h,hD⟩
 ·rw [emp_cup]
  exact emp_dj _
 ·intro y o q
  rw [emp_cup] at q
  exact q.elim
end Go.TV
